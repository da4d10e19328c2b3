/- SxQ SxR SxS SxSr SxT -/
import Derived.Test.YtkmldclpaniclaaGreatSxP
set_option linter.unusedSimpArgs false
set_option linter.unusedVariables false
set_option linter.defProp false
section
namespace Go.Sx
open Go.RowKit
inductive KV where
 |f (x:Option SV)
 |h (x:Option (Option Ob))
def State.get(σ:State):Key->KV
 |.f t=>.f (σ.F t)
 |.h o=>.h (σ.H o)
theorem Rd.agree{α:Type}{σ σ':State}:∀(r:Rd α),(∀κ∈r.keys σ,σ'.get κ=σ.get κ)->r.run σ'=r.run σ
 |.ret x,_=>rfl
 |.fail,_=>rfl
 |.f t k,hh=>by
  have h1:σ'.F t=σ.F t:=by have:=hh (.f t) (by simp[Rd.keys]);simpa[State.get]using this
  simp only[Rd.run,h1];cases hF:σ.F t with
  |none=>rfl
  |some sv=>exact Rd.agree (k sv) fun κ hκ=>hh κ (by simp[Rd.keys,hF,hκ])
 |.h o k,hh=>by
  have h1:σ'.H o=σ.H o:=by have:=hh (.h o) (by simp[Rd.keys]);simpa[State.get]using this
  simp only[Rd.run,h1];cases hH:σ.H o with
  |none=>rfl
  |some x =>
   cases x with
   |none=>rfl
   |some ob=>exact Rd.agree (k ob) fun κ hκ=>hh κ (by simp[Rd.keys,hH,hκ])
 |.abs o k,hh=>by
  have h1:σ'.H o=σ.H o:=by have:=hh (.h o) (by simp[Rd.keys]);simpa[State.get]using this
  simp only[Rd.run,h1];cases hH:σ.H o with
  |none=>exact Rd.agree k fun κ hκ=>hh κ (by simp[Rd.keys,hκ])
  |some x=>rfl
theorem ax.ext{C:Cx}{σ σ':State}(h:∀κ,σ'.get κ=σ.get κ){a:Act}{w:World}(hs:ax C σ a w):ax C σ' a w:=by
 have hF:∀t,σ'.F t=σ.F t:=fun t=>by have:=h (.f t);simpa[State.get]using this
 have hH:∀o,σ'.H o=σ.H o:=fun o=>by have:=h (.h o);simpa[State.get]using this
 exact ax.eqv hF hH hs
def ab(b:Bool)(A B:Prop):Prop :=
 match b with
 |true=>A
 |false=>B
def Qa(p:Option Prop)(A:Prop):Prop :=
 match p with
 |none=>A
 |some q=>q/\A
structure Ent where
 rd:List Key
 wr:List Key
def qO(N:Nat)(o:Oper):Bool :=
 match o.dst with
 |none=>true
 |some d=>Nat.blt d N
def gd(ops:Array Oper)(σ:State)(o:Oper):Option Bool :=
 match o.guard with
 |none=>some true
 |some (j,want)=>match ops[j]? with
  |none=>none
  |some oj=>match oj.dst with
   |none=>none
   |some t=>match σ.F t with
    |some (.c (.bool b))=>match b,want with
     |true,true=>some true
     |true,false=>some false
     |false,true=>some false
     |false,false=>some true
    |some (.c .und)=>some false
    |_=>none
def jO(ops:Array Oper)(o:Oper):List Key :=
 match o.guard with
 |none=>[]
 |some (j,_)=>match ops[j]? with
  |none=>[]
  |some oj=>match oj.dst with
   |none=>[]
   |some t=>[.f t]
def jn(o:Oper):List Key :=
 match o.dst with
 |none=>[]
 |some d=>[.f d]
def isSrc(i:Nat)(d:Option Nat):List Oper->Bool
 | []=>false
 |o::rest=>(match o.guard with
   |some (j,_)=>Nat.beq j i
   |none=>false)||(match o.op,d with
   |.pick (.tmp t) _ _,some d=>Nat.beq t d
   |_,_=>false)||isSrc i d rest
def jP(l:List (Nat×Option Ob)):List Key:=l.map fun p=>.h p.1
def kE(P:Program)(Γ:FuncId->Option Ctr)(wr:Nat->Bool)(N:Nat)(ops:Array Oper):List Oper->Nat->State->List Ent->(State->List Ent->Prop)->Prop
 | [],_,σ,es,K=>K σ es
 |o::rest,i,σ,es,K =>
  match qO N o with
  |false=>False
  |true=>match gd ops σ o with
   |none=>False
   |some false=>kE P Γ wr N ops rest (i+1) (σ.app o.dst ⟨.c .und,[],none⟩) (es++[⟨jO ops o,jn o⟩]) K
   |some true=>match(cM P Γ wr o).run σ with
    |none=>False
    |some ⟨val,hp,owed⟩=>Qa owed (match isSrc i o.dst rest with
     |false=>kE P Γ wr N ops rest (i+1) (σ.app o.dst ⟨val,hp,none⟩) (es++[⟨jO ops o++(cM P Γ wr o).keys σ,jn o++jP hp⟩]) K
     |true=>match val with
      |.c (.bool b)=>ab b
        (kE P Γ wr N ops rest (i+1) (σ.app o.dst ⟨.c (.bool true),hp,none⟩) (es++[⟨jO ops o++(cM P Γ wr o).keys σ,jn o++jP hp⟩]) K)
        (kE P Γ wr N ops rest (i+1) (σ.app o.dst ⟨.c (.bool false),hp,none⟩) (es++[⟨jO ops o++(cM P Γ wr o).keys σ,jn o++jP hp⟩]) K)
      |_=>False)
def nh(C:Cx)(ops:Array Oper)(i:Nat)(o:Oper)(σ:State)(eff:Eff)(e:Ent):Prop :=
 (∀κ,κ ∉ e.wr->∀τ:State,(τ.app o.dst eff).get κ=τ.get κ)/\(∀κ∈e.wr,∀τ τ':State,(τ.app o.dst eff).get κ=(τ'.app o.dst eff).get κ)/\∀τ:State,(∀κ∈e.rd,τ.get κ=σ.get κ)->∀a w,ax C τ a w->∀ro Q,wpOpIn (eh ro) 0 C.P ops Q i (fun a' w'=>ax C (τ.app o.dst eff) a' w') a w
inductive Run (C:Cx) (ops:Array Oper):List Oper->Nat->State->List Ent->State->Prop
 |nil {i:Nat} {σ:State}:Run C ops [] i σ [] σ
 |cons {o:Oper} {rest:List Oper} {i:Nat} {σ σ':State} {eff:Eff} {e:Ent} {es:List Ent} (h:nh C ops i o σ eff e) (t:Run C ops rest (i+1) (σ.app o.dst eff) es σ'):Run C ops (o::rest) i σ (e::es) σ'
section
variable {C:Cx}
theorem HP{σ:State}{dst:Option Nat}{eff:Eff}{κ:Key}:(σ.app dst eff).get κ=match κ with
  |.f t=>if dst=some t then .f (some eff.val)else σ.get (.f t)
  |.h o=>match lk eff.hp o with|some x=>.h (some x)|none=>σ.get (.h o):=by
 cases κ with
 |f t=>simp only[State.get,lE];split<;>rfl
 |h o =>
  simp only[State.get,jI];cases lk eff.hp o<;>rfl
theorem Qb{α:Type}:∀{l:List (Nat×α)} {o:Nat} {x:α},lk l o=some x->o∈l.map (·.1)
 | [],o,x,h=>by simp[lk]at h
 |(k,v)::l,o,x,h=>by
  rw[bm]at h;split at h
  ·rename_i hk;simp[hk]
  ·have:=Qb h;simp at this⊢;exact .inr this
theorem Qc{α:Type}:∀{l:List (Nat×α)} {o:Nat},o∈l.map (·.1)->∃x,lk l o=some x
 | [],o,h=>by simp at h
 |(k,v)::l,o,h=>by
  rw[bm];by_cases hk:k=o
  ·exact⟨v,by simp[hk]⟩
  ·rw[AB hk]
   have h:o=k\/o∈l.map (·.1):=by simpa using h
   exact Qc (h.resolve_left (AM hk))
theorem Qd{dst:Option Nat}{eff:Eff}{o:Oper}(hd:o.dst=dst)(rd:List Key) :
  (∀κ,κ ∉ (Ent.mk rd (jn o++jP eff.hp)).wr->∀τ:State,(τ.app dst eff).get κ=τ.get κ) /\
  (∀κ∈(Ent.mk rd (jn o++jP eff.hp)).wr,∀τ τ':State,(τ.app dst eff).get κ=(τ'.app dst eff).get κ):=by
 constructor
 ·intro κ hκ τ
  simp only[AI,not_or]at hκ;rw[HP];cases κ with
  |f t =>
   have:¬ dst=some t:=fun hc=>hκ.1 (by simp[jn,hd,hc])
   simp only[this,Al]
  |h x =>
   cases hx:lk eff.hp x with
   |none=>simp only[hx]
   |some y =>
    exfalso
    apply hκ.2
    have:=Qb hx
    simp only[jP,AH]at this⊢;obtain⟨p,hp,rfl⟩:=this;exact⟨p,hp,rfl⟩
 ·intro κ hκ τ τ'
  rw[HP,HP];simp only[AI]at hκ;cases κ with
  |f t =>
   have:dst=some t:=by
    rcases hκ with h1|h1
    ·unfold jn at h1
     rw[hd]at h1;cases dst with
     |none=>simp at h1
     |some d=>simp at h1;rw[h1]
    ·simp[jP]at h1
   simp only[this,AV]
  |h x =>
   have hx:x∈eff.hp.map (·.1):=by
    rcases hκ with h1|h1
    ·unfold jn at h1
     split at h1<;>simp at h1
    ·simp only[jP,AH]at h1⊢
     obtain⟨p,hp,h2⟩:=h1;cases h2;exact⟨p,hp,rfl⟩
   obtain⟨y,hy⟩:=Qc hx;simp only[hy]
theorem Qe{N:Nat}{o:Oper}(h:qO N o=true):∀d,o.dst=some d->d<N:=by
 intro d hd
 unfold qO at h;rw[hd]at h
 simpa using h
theorem Qf{ops:Array Oper}{o:Oper}{σ:State}{b:Bool}(hg:gd ops σ o=some b){a:Act}{w:World}{mu:Nat->Img}(h:St C σ mu a w) :
  Region.wanted o (yielded ops a.tmps)=b:=by
 have yld:∀{j t:Nat} {oj:Oper} {v:Value},ops[j]?=some oj->oj.dst=some t->a.tmps.getD t undef=v->(∀c,v≠.bool c)->yielded ops a.tmps j=none:=fun {j t oj v} h3 h4 h1 h2=>by
  unfold yielded;rw[h3,DG,h4,DG];cases hx:a.tmps[t]? with
  |none=>rfl
  |some u =>
   have:u=v:=by rw[<-h1];simp[BO,hx]
   subst this;cases u<;>first|rfl|exact absurd rfl (h2 _)
 have yldb:∀{j t:Nat} {oj:Oper} {c:Bool},ops[j]?=some oj->oj.dst=some t->a.tmps.getD t undef=.bool c->yielded ops a.tmps j=some c:=fun {j t oj c} h3 h4 h1=>by
  unfold yielded;rw[h3,DG,h4,DG];cases hx:a.tmps[t]? with
  |none=>simp[BO,hx,undef]at h1
  |some u =>
   have:u=.bool c:=by rw[<-h1];simp[BO,hx]
   subst this;rfl
 unfold gd at hg;unfold Region.wanted;split at hg
 ·rename_i hn
  cases hg;rw[hn]
 ·rename_i j want hjw
  rw[hjw];split at hg
  ·cases hg
  ·rename_i oj hoj
   split at hg
   ·cases hg
   ·rename_i t ht
    split at hg
    ·rename_i c hc
     have hv:a.tmps.getD t undef=.bool c:=h.fr t _ hc
     simp only[yldb hoj ht hv];cases c<;>cases want<;>cases hg<;>rfl
    ·rename_i hc
     cases hg;have hv:a.tmps.getD t undef=undef:=h.fr t _ hc
     simp only[yld hoj ht hv (fun c hc=>by cases hc)]
     cases want<;>rfl
    ·cases hg
theorem Qg{ops:Array Oper}{o:Oper}{σ τ:State}(h:∀κ∈jO ops o,τ.get κ=σ.get κ):gd ops τ o=gd ops σ o:=by
 unfold gd;unfold jO at h;cases hg:o.guard with
 |none=>rfl
 |some p =>
  obtain⟨j,want⟩:=p;rw[hg]at h;simp only at h⊢;cases hj:ops[j]? with
  |none=>rfl
  |some oj =>
   rw[hj]at h;simp only at h⊢;cases hd:oj.dst with
   |none=>rfl
   |some t =>
    rw[hd]at h;have:τ.F t=σ.F t:=by have:=h (.f t) (by simp);simpa[State.get]using this
    simp only[this]
theorem Z7{ops:Array Oper}{i:Nat}{o:Oper}{σ:State}(hi:ops[i]?=some o)(hd:qO C.N o=true)(hg:gd ops σ o=some false) :
  nh C ops i o σ ⟨.c .und,[],none⟩ ⟨jO ops o,jn o⟩:=by
 have hk:=Qd (eff:=⟨.c .und,[],none⟩) (dst:=o.dst) (o:=o) rfl (jO ops o)
 simp only[jP,Cq,Ac]at hk;refine⟨hk.1,hk.2,fun τ hτ a w hs ro Q=>?_⟩
 obtain⟨wG,mu,hgf,h⟩:=hs;have hw:=Qf (Qg hτ |>.trans hg) h
 unfold wpOpIn;rw[hi];simp only[hw];refine⟨fun _ _=>trivial,?_⟩
 exact ax.up hgf (St.ex (h.put_pure (Qe hd) rfl rfl))
theorem HQ{Γ:FuncId->Option Ctr}(hΓ:cY C.P Γ){wr:Nat->Bool}{ops:Array Oper}{i:Nat}{o:Oper}{σ:State}{eff eff':Eff}(hi:ops[i]?=some o)(hd:qO C.N o=true)(hg:gd ops σ o=some true)
  (hr:(cM C.P Γ wr o).run σ=some eff)(hob:eff.obl)(hval:eff'.val=eff.val)(hhp:eff'.hp=eff.hp) :
  nh C ops i o σ eff' ⟨jO ops o++(cM C.P Γ wr o).keys σ,jn o++jP eff.hp⟩:=by
 have hk:=Qd (eff:=eff') (dst:=o.dst) (o:=o) rfl (jO ops o++(cM C.P Γ wr o).keys σ)
 rw[hhp]at hk;refine⟨hk.1,hk.2,fun τ hτ a w hs ro Q=>?_⟩
 obtain⟨wG,mu,hgf,h⟩:=hs;have hw:=Qf (Qg (fun κ hκ=>hτ κ (AI.2 (.inl hκ))) |>.trans hg) h
 have ω:=(Rd.agree (cM C.P Γ wr o) fun κ hκ=>hτ κ (AI.2 (.inr hκ))).trans hr
 have happ:τ.app o.dst eff'=τ.app o.dst eff:=by simp[State.app,hval,hhp]
 unfold wpOpIn;rw[hi];simp only[hw,AV];rw[happ];exact Oper.wpIn_mono (fun a w h=>ax.up hgf h) (Z6 (C:=C.fz wG) hΓ ω hob h (Qe hd) Q)
theorem Z8{p:Option Prop}{A:Prop}(h:Qa p A){val:SV}{hp:List (Nat×Option Ob)}:(Eff.mk val hp p).obl/\A:=by
 cases p with
 |none=>exact⟨trivial,h⟩
 |some q=>exact h
theorem HR{Γ:FuncId->Option Ctr}(hΓ:cY C.P Γ){wr:Nat->Bool}{ops:Array Oper}{K:State->List Ent->Prop} :
  ∀(l:List Oper) (i:Nat) (σ:State) (es:List Ent),(∀j:Nat,l[j]?=ops[i+j]?)->kE C.P Γ wr C.N ops l i σ es K->∃es' σ',Run C ops l i σ es' σ'/\K σ' (es++es')
 | [],i,σ,es,_,h=>⟨[],σ,.nil,by rw[Ac];exact h⟩
 |o::rest,i,σ,es,hl,h=>by
  have hi:ops[i]?=some o:=by have:=hl 0;simpa using this.symm
  have hl':∀j:Nat,rest[j]?=ops[i+1+j]?:=fun j=>by have:=hl (j+1);rw[show i+1+j=i+(j+1) by omega,<-this];simp
  have go:∀(eff:Eff) (e:Ent),nh C ops i o σ eff e->kE C.P Γ wr C.N ops rest (i+1) (σ.app o.dst eff) (es++[e]) K->∃es' σ',Run C ops (o::rest) i σ es' σ'/\K σ' (es++es'):=fun eff e h1 h2=>by
   obtain⟨es',σ',h3,h4⟩:=HR hΓ rest (i+1) _ _ hl' h2;exact⟨e::es',σ',.cons h1 h3,by simpa using h4⟩
  unfold kE at h;split at h
  ·exact h.elim
  ·rename_i hd
   split at h
   ·exact h.elim
   ·rename_i hg
    exact go _ _ (Z7 hi hd hg) h
   ·rename_i hg
    split at h
    ·exact h.elim
    ·rename_i val hp owed hr
     obtain⟨hob,h2⟩:=Z8 (val:=val) (hp:=hp) h;clear h;split at h2
     ·exact go _ _ (HQ hΓ hi hd hg hr hob rfl rfl) h2
     ·split at h2
      ·rename_i b
       cases b with
       |true=>exact go _ _ (HQ hΓ hi hd hg hr hob rfl rfl) h2
       |false=>exact go _ _ (HQ hΓ hi hd hg hr hob rfl rfl) h2
      ·exact h2.elim
theorem Z9{P:Program}{ops:Array Oper}{Q:Exit->Act->World->Prop}{i:Nat}{rest:List Nat}{a:Act}{w:World}{K:Act->World->Prop}{ro:Option Nat}(h:wpOpIn (eh ro) 0 P ops Q i K a w)(hk:∀a w,K a w->wpOpsIn (eh ro) 0 P ops Q rest a w) :
  wpOpsIn (eh ro) 0 P ops Q (i::rest) a w:=by
 rw[wpOpsIn_cons];exact wpOpIn_mono hk h
theorem aa0{ro:Option Nat}{ops:Array Oper}{Q:Exit->Act->World->Prop}:∀{l:List Oper} {i:Nat} {σ σ':State} {es:List Ent},Run C ops l i σ es σ'->∀a w,ax C σ a w->(∀a w,ax C σ' a w->Q .normal a w) ->
  wpOpsIn (eh ro) 0 C.P ops Q (List.range' i l.length) a w:=by
 intro l i σ σ' es h
 induction h with
 |nil=>intro a w hs hq;exact hq a w hs
 |cons h t ih =>
  intro a w hs hq
  rw[AS,DS];exact Z9 (h.2.2 _ (fun _ _=>rfl) a w hs ro Q) fun a w hs'=>ih a w hs' hq
end
end Go.Sx
end
section
namespace Go.Sx
open Go.RowKit
def kF(o:Oper):List Nat:=(o.after.toList.filter fun e=>Region.binds .any e).map (·.on)
def wl(acc:List Nat):List Nat->Nat->Nat
 | [],m=>m
 |k::ks,m=>wl acc ks ((m ||| (1 <<< k)) ||| acc.getD k 0)
def gH:List Oper->List Nat->List Nat
 | [],acc=>acc
 |o::l,acc=>gH l (acc++[wl acc (kF o) 0])
def pb:List Oper->Nat->Bool
 | [],_=>true
 |o::l,i=>(kF o).all (fun k=>Nat.blt k i)&&pb l (i+1)
def hasKey(κ:Key):List Key->Bool
 | []=>false
 |x::l=>Key.eq x κ||hasKey κ l
def meet:List Key->List Key->Bool
 | [],_=>false
 | κ::l,l'=>hasKey κ l'||meet l l'
def ni(e e':Ent):Bool:=meet e.wr e'.rd||meet e.wr e'.wr||meet e.rd e'.wr
def wm(e:Ent)(m:Nat):List Ent->Nat->Bool
 | [],_=>true
 |e'::l,i=>(!(ni e' e)||m.testBit i)&&wm e m l (i+1)
def qP:List Ent->List Ent->List Nat->Bool
 |_,[],_=>true
 |_,_::_,[]=>false
 |prev,e::es,m::ms=>wm e m prev 0&&qP (prev++[e]) es ms
def HS(ops:List Oper)(es:List Ent):Bool:=pb ops 0&&qP [] es (gH ops [])
theorem Key.eq_self(a:Key):Key.eq a a=true:=by cases a<;>simp[Key.eq]
theorem Qh{κ:Key}:∀{l:List Key},κ∈l->hasKey κ l=true
 | [],h=>by simp at h
 |x::l,h=>by
  simp only[hasKey,BR];rcases AG.1 h with rfl|h
  ·exact .inl (Key.eq_self _)
  ·exact .inr (Qh h)
theorem wn{κ:Key}:∀{l l':List Key},κ∈l->κ∈l'->meet l l'=true
 | [],_,h,_=>by simp at h
 |x::l,l',h,h'=>by
  simp only[meet,BR];rcases AG.1 h with rfl|h
  ·exact .inl (Qh h')
  ·exact .inr (wn h h')
theorem wo:∀{l:List Oper} {i:Nat},pb l i=true->∀(j:Nat) (o:Oper),l[j]?=some o->∀k∈kF o,k<i+j
 | [],_,_,j,o,h=>by simp at h
 |o'::l,i,h,j,o,hj=>by
  simp only[pb,AL]at h;cases j with
  |zero =>
   simp at hj;subst hj
   intro k hk
   have:=AW.1 h.1 k hk
   simpa using this
  |succ j =>
   intro k hk
   have:=wo h.2 j o (by simpa using hj) k hk
   omega
theorem Qi{acc:List Nat}{i:Nat}:∀{ks:List Nat} {m:Nat},(wl acc ks m).testBit i=true->m.testBit i=true\/∃k∈ks,k=i\/(acc.getD k 0).testBit i=true
 | [],m,h=>.inl h
 |k::ks,m,h=>by
  have h:(wl acc ks ((m ||| (1 <<< k)) ||| acc.getD k 0)).testBit i=true:=h
  rcases Qi (ks:=ks) h with h1|⟨k',h1,h2⟩
  ·simp only[Nat.testBit_or,BR]at h1
   rcases h1 with(h1|h1)|h1
   ·exact .inl h1
   ·rw[Nat.one_shiftLeft,Nat.testBit_two_pow]at h1
    exact .inr ⟨k,by simp,.inl (by simpa using h1)⟩
   ·exact .inr ⟨k,by simp,.inr h1⟩
  ·exact .inr ⟨k',by simp[h1],h2⟩
theorem HT:∀{l:List Oper} {acc:List Nat} {k:Nat},k<acc.length->(gH l acc)[k]?=acc[k]?
 | [],_,_,_=>rfl
 |o::l,acc,k,h=>by
  simp only[gH];rw[HT (by simp;omega),Au h]
theorem Qj:∀{l:List Oper} {acc:List Nat} {i:Nat},acc.length=i->pb l i=true->∀(j:Nat) (o:Oper),l[j]?=some o->∀x,((gH l acc).getD (i+j) 0).testBit x=true ->
  ∃k∈kF o,k=x\/((gH l acc).getD k 0).testBit x=true
 | [],_,_,_,_,j,o,h=>by simp at h
 |o'::l,acc,i,hl,he,j,o,hj=>by
  intro x hx
  have he2:=he
  simp only[pb,AL]at he;cases j with
  |zero =>
   simp at hj;subst hj
   simp only[gH,Bc,AP]at hx⊢;rw[HT (by simp;omega),<-hl,A0 (AE _)]at hx
   simp at hx
   rcases Qi hx with h1|⟨k,h1,h2⟩
   ·simp at h1
   ·refine⟨k,h1,h2.imp id fun h3=>?_⟩
    have hk:k<acc.length:=by
     have:=AW.1 he.1 k h1
     rw[hl];simpa using this
    rw[HT (by simp;omega),Au hk]
    simpa[AP]using h3
  |succ j =>
   simp only[gH]at hx⊢;exact Qj (i:=i+1) (by simp[hl]) he.2 j o (by simpa using hj) x (by rw[show i+1+j=i+(j+1) by omega];exact hx)
theorem Qk{e:Ent}{m:Nat}:∀{l:List Ent} {i:Nat},wm e m l i=true->∀(x:Nat) (e':Ent),l[x]?=some e'->ni e' e=true->m.testBit (i+x)=true
 | [],_,_,x,e',h=>by simp at h
 |e0::l,i,h,x,e',hx=>by
  intro hc
  simp only[wm,AL,BR]at h;cases x with
  |zero =>
   simp at hx;subst hx
   rcases h.1 with h1|h1
   ·rw[hc]at h1;cases h1
   ·simpa using h1
  |succ x =>
   rw[show i+(x+1)=i+1+x by omega]
   exact Qk h.2 x e' (by simpa using hx) hc
theorem Ql:∀{es prev:List Ent} {ms:List Nat},qP prev es ms=true->∀(j:Nat) (e:Ent),es[j]?=some e->∀(x:Nat) (e':Ent),x<prev.length+j->(prev++es)[x]?=some e'->ni e' e=true->(ms.getD j 0).testBit x=true
 | [],_,_,_,j,e,h=>by simp at h
 |_::_,_,[],h,_,_,_=>by simp[qP]at h
 |e0::es,prev,m::ms,h,j,e,hj=>by
  intro x e' hx he hc
  simp only[qP,AL]at h;cases j with
  |zero =>
   simp at hj;subst hj
   have hx:x<prev.length:=by omega
   rw[Au hx]at he;have:=Qk h.1 x e' he hc
   simpa using this
  |succ j =>
   have:=Ql h.2 j e (by simpa using hj) x e' (by simp;omega) (by simpa using he) hc
   simpa using this
def sub(σ0:State)(prs:List (Oper×Eff))(L:Nat->Bool):Nat->State
 |0=>σ0
 |k+1=>match prs[k]? with
  |some (o,eff)=>match L k with
   |true=>(sub σ0 prs L k).app o.dst eff
   |false=>sub σ0 prs L k
  |none=>sub σ0 prs L k
section
variable {C:Cx} {ops:Array Oper} {σ0:State} {prs:List (Oper×Eff)} {es:List Ent}
def HU(C:Cx)(ops:Array Oper)(σ0:State)(prs:List (Oper×Eff))(es:List Ent):Prop :=
 es.length=prs.length/\∀(i:Nat) (o:Oper) (eff:Eff) (e:Ent),prs[i]?=some (o,eff)->es[i]?=some e->nh C ops i o (sub σ0 prs (fun _=>true) i) eff e
theorem HV{o:Oper}{eff:Eff}{σ:State}{prs:List (Oper×Eff)}:∀k,sub σ ((o,eff)::prs) (fun _=>true) (k+1)=sub (σ.app o.dst eff) prs (fun _=>true) k
 |0=>rfl
 |k+1=>by
  have:=HV (o:=o) (eff:=eff) (σ:=σ) (prs:=prs) k
  simp only[sub,Bp]at this⊢;rw[this]
theorem aa1{l:List Oper}{i:Nat}{σ σ':State}{es:List Ent}(h:Run C ops l i σ es σ') :
  ∃prs:List (Oper×Eff),prs.map (·.1)=l/\es.length=prs.length/\σ'=sub σ prs (fun _=>true) prs.length /\
   ∀(j:Nat) (o:Oper) (eff:Eff) (e:Ent),prs[j]?=some (o,eff)->es[j]?=some e->nh C ops (i+j) o (sub σ prs (fun _=>true) j) eff e:=by
 induction h with
 |nil=>exact⟨[],rfl,rfl,rfl,fun j o eff e h=>by simp at h⟩
 | @cons o rest i σ σ' eff e es h t ih =>
  obtain⟨prs,h1,h2,h3,h4⟩:=ih;refine⟨(o,eff)::prs,by simp[h1],by simp[h2],?_,fun j o' eff' e' hj he=>?_⟩
  ·rw[h3,AS,HV]
  ·cases j with
   |zero=>simp at hj he;obtain⟨rfl,rfl⟩:=hj;subst he;exact h
   |succ j =>
    rw[HV];have:=h4 j o' eff' e' (by simpa using hj) (by simpa using he)
    rwa[show i+(j+1)=i+1+j by omega]
variable (hst:HU C ops σ0 prs es)
include hst
theorem HW{i:Nat}{o:Oper}{eff:Eff}(h:prs[i]?=some (o,eff)):∃e,es[i]?=some e/\nh C ops i o (sub σ0 prs (fun _=>true) i) eff e:=by
 have ψ:i<es.length:=by rw[hst.1];exact(AN.1 h).1
 exact⟨es[i],AF ψ,hst.2 i o eff _ h (AF ψ)⟩
theorem HX{L L':Nat->Bool}{κ:Key}:∀(k:Nat),(∀(j:Nat) (e:Ent),j<k->es[j]?=some e->κ∈e.wr->L j=L' j)->(sub σ0 prs L k).get κ=(sub σ0 prs L' k).get κ
 |0,_=>rfl
 |k+1,h=>by
  have ih:=HX k fun j e hj=>h j e (by omega)
  simp only[sub];cases hp:prs[k]? with
  |none=>exact ih
  |some p =>
   obtain⟨o,eff⟩:=p;obtain⟨e,he,hs⟩:=HW hst hp;by_cases hκ:κ∈e.wr
   ·have:=h k e (by omega) he hκ
    simp only[this];cases L' k with
    |true=>exact hs.2.1 κ hκ _ _
    |false=>exact ih
   ·cases hL:L k<;>cases hL':L' k<;>simp only[hs.1 κ hκ]<;>exact ih
omit hst in
theorem Qm{L:Nat->Bool}{i:Nat}(h:∀j,i<=j->L j=false):∀k,i<=k->sub σ0 prs L k=sub σ0 prs L i
 | 0, hk => by have:i=0:=by omega
               subst this;rfl
 |k+1,hk=>by
  by_cases hik:i=k+1
  ·subst hik;rfl
  ·have ih:=Qm h k (by omega)
   simp only[sub];cases prs[k]? with
   |none=>exact ih
   |some p=>simp only[h k (by omega)];exact ih
omit hst in
theorem wp{L L':Nat->Bool}:∀k,(∀j,j<k->L j=L' j)->sub σ0 prs L k=sub σ0 prs L' k
 |0,_=>rfl
 |k+1,h=>by
  have ih:=wp k fun j hj=>h j (by omega)
  simp only[sub,ih,h k (by omega)]
theorem Qn{L:Nat->Bool}{κ:Key}{i:Nat}(h:∀(j:Nat) (e:Ent),i<=j->es[j]?=some e->κ∈e.wr->L j=false):∀k,i<=k->(sub σ0 prs L k).get κ=(sub σ0 prs L i).get κ
 | 0, hk => by have:i=0:=by omega
               subst this;rfl
 |k+1,hk=>by
  by_cases hik:i=k+1
  ·subst hik;rfl
  ·have ih:=Qn h k (by omega)
   simp only[sub];cases hp:prs[k]? with
   |none=>exact ih
   |some p =>
    obtain⟨o,eff⟩:=p;obtain⟨e,he,hs⟩:=HW hst hp;by_cases hκ:κ∈e.wr
    ·simp only[h k e (by omega) he hκ];exact ih
    ·cases hL:L k<;>simp only[hs.1 κ hκ]<;>exact ih
end
theorem HY:∀(n:Nat) (S:List Nat),S.Nodup->(∀k∈S,k<n)->S.length<=n
 |0,S,_,h=>by
  cases S with
  |nil=>simp
  |cons x S=>have:=h x (by simp);omega
 |n+1,S,hn,h=>by
  by_cases hx:n∈S
  ·have:=HY n (S.erase n) (hn.erase n) fun k hk=>by
    have h1:=(hn.mem_erase_iff).1 hk
    have:=h k h1.2
    have:=h1.1
    omega
   rw[DB hx]at this;omega
  ·have:=HY n S hn fun k hk=>by
    have:=h k hk
    have:k≠n:=fun hc=>hx (hc ▸ hk)
    omega
   omega
section
variable {C:Cx} {ops:Array Oper} {σ0:State} {prs:List (Oper×Eff)} {es:List Ent}
theorem aa2{ro:Option Nat}(hst:HU C ops σ0 prs es)(hl:prs.map (·.1)=ops.toList)(hok:HS ops.toList es=true){Q:Exit->Act->World->Prop}
  (hq:∀a w,ax C (sub σ0 prs (fun _=>true) prs.length) a w->Q .normal a w) :
  ∀(fuel:Nat) (listed:Array Bool) (a:Act) (w:World),listed.size=ops.size ->
   (∀S:List Nat,S.Nodup->(∀k∈S,k<ops.size/\listed.getD k true=false)->S.length<=fuel) ->
   (∀(j:Nat) (o:Oper),ops[j]?=some o->listed.getD j false=true->∀k∈kF o,listed.getD k false=true) ->
   ax C (sub σ0 prs (fun k=>listed.getD k false) prs.length) a w->wpAnyIn (eh ro) 0 C.P .any ops Q fuel listed a w:=by
 have hlen:prs.length=ops.size:=by have:=A4 List.length hl;simpa using this
 simp only[HS,AL]at hok;obtain⟨helt,hchk⟩:=hok;have hop:∀(i:Nat) (o:Oper),ops[i]?=some o->∃eff,prs[i]?=some (o,eff):=fun i o hi=>by
  have h1:(prs.map (·.1))[i]?=some o:=by rw[hl];simpa using hi
  rw[Ai]at h1;cases hp:prs[i]? with
  |none=>simp[hp]at h1
  |some p=>simp[hp]at h1;exact⟨p.2,by rw[<-h1]⟩
 have hpo:∀(i:Nat) (o:Oper) (eff:Eff),prs[i]?=some (o,eff)->ops[i]?=some o:=fun i o eff hi=>by
  have h1:(prs.map (·.1))[i]?=some o:=by simp[hi]
  rw[hl]at h1;simpa using h1
 have hdep:∀(j:Nat) (o:Oper),ops[j]?=some o->∀x,((gH ops.toList []).getD j 0).testBit x=true->∃k∈kF o,k=x\/((gH ops.toList []).getD k 0).testBit x=true:=fun j o hj x hx=>by
  have:=Qj (acc:=[]) (i:=0) rfl helt j o (by simpa using hj) x (by rw[AJ];exact hx)
  exact this
 have hcon:∀(i j:Nat) (e e':Ent),i<j->es[i]?=some e->es[j]?=some e'->ni e e'=true->((gH ops.toList []).getD j 0).testBit i=true:=fun i j e e' hij hi hj hc =>
  Ql hchk j e' hj i e (by simpa using hij) (by simpa using hi) hc
 have hgd:∀(listed:Array Bool),listed.size=ops.size->∀k,k<ops.size->(listed.getD k false=true↔listed.getD k true=true):=fun listed hs k hk=>by
  have:k<listed.size:=by omega
  simp[Array.getD,this]
 have hclosed:∀(listed:Array Bool),(∀(j:Nat) (o:Oper),ops[j]?=some o->listed.getD j false=true->∀k∈kF o,listed.getD k false=true) ->
   ∀(n j:Nat) (o:Oper),j<n->ops[j]?=some o->listed.getD j false=true->∀x,((gH ops.toList []).getD j 0).testBit x=true->listed.getD x false=true:=by
  intro listed hcl n
  induction n with
  |zero=>intro j o hj;omega
  |succ n ih =>
   intro j o hj ho hlj x hx
   obtain⟨k,hk,h1⟩:=hdep j o ho x hx;have hkl:=hcl j o ho hlj k hk
   rcases h1 with rfl|h1
   ·exact hkl
   ·have hkj:k<j:=by have:=wo helt j o (by simpa using ho) k hk;omega
    have hko:∃ok,ops[k]?=some ok:=by
     have:k<ops.size:=by have:=(BC.1 ho).1;omega
     exact⟨ops[k],CA this⟩
    obtain⟨ok,hko⟩:=hko;exact ih k ok (by omega) hko hkl x h1
 intro fuel
 induction fuel with
 |zero =>
  intro listed a w hs hcnt hcl hse
  have hall:∀k,k<ops.size->listed.getD k false=true:=fun k hk=>by
   refine Av fun hc=>?_
   have:=hcnt [k] (by simp) (fun k' hk'=>by
    simp at hk';subst hk'
    refine⟨hk,?_⟩
    have:=hgd listed hs k' hk
    cases hx:listed.getD k' true with
    |false=>rfl
    |true=>exact absurd (this.2 hx) hc)
   simp at this
  refine⟨?_,hq a w ?_⟩
  ·unfold Region.ready
   rw[List.filter_eq_nil_iff];intro i hi
   have hi':i<ops.size:=by simpa using hi
   simp[(hgd listed hs i hi').1 (hall i hi')]
  ·rw[wp prs.length (L':=fun k=>listed.getD k false) fun j hj=>(hall j (by omega)).symm]
   exact hse
 |succ fuel ih =>
  intro listed a w hs hcnt hcl hse
  refine⟨fun hready=>hq a w ?_,fun i hi=>?_⟩
  ·-- nothing is ready: all are listed
   have hall:∀n k,k<n->k<ops.size->listed.getD k false=true:=by
    intro n
    induction n with
    |zero=>intro k hk;omega
    |succ n ihn =>
     intro k hk hko
     refine Av fun hc=>?_
     have hmem:k∈Region.ready .any ops listed:=by
      unfold Region.ready;rw[An];refine⟨by simpa using hko,?_⟩
      have h1:listed.getD k true=false:=by
       cases hx:listed.getD k true with
       |false=>rfl
       |true=>exact absurd ((hgd listed hs k hko).2 hx) hc
      rw[h1];have h2:ops[k]?=some ops[k]:=CA hko
      rw[h2];simp only[Db,Ch,B4,A9,D0];intro e he
      cases hb:Region.binds .any e with
      |false=>rfl
      |true =>
       have hon:e.on∈kF ops[k]:=AH.2 ⟨e,An.2 ⟨by simpa using he,hb⟩,rfl⟩
       have ψ:e.on<k:=by have:=wo helt k ops[k] (by simp) e.on hon;omega
       simpa using ihn e.on (by omega) (by omega)
     rw[hready]at hmem;simp at hmem
   rw[wp prs.length (L':=fun k=>listed.getD k false) fun j hj=>(hall (j+1) j (by omega) (by omega)).symm]
   exact hse
  ·-- operation i is ready
   unfold Region.ready at hi;rw[An]at hi;obtain⟨hir,hi2⟩:=hi;have hio:i<ops.size:=by simpa using hir
   have ho:ops[i]?=some ops[i]:=CA hio
   simp only[AL,Cd,ho,Ch,B4]at hi2;obtain⟨hil,hiall⟩:=hi2;have hil':listed.getD i false=false:=by
    cases hx:listed.getD i false with
    |false=>rfl
    |true=>rw[(hgd listed hs i hio).1 hx]at hil;cases hil
   have hedge:∀k∈kF ops[i],listed.getD k false=true:=fun k hk=>by
    obtain⟨e,he,rfl⟩:=AH.1 hk;obtain⟨he1,he2⟩:=An.1 he;have:=D0.1 hiall e (by simpa using he1)
    rw[he2]at this
    simpa using this
   have hanc:∀x,((gH ops.toList []).getD i 0).testBit x=true->listed.getD x false=true:=fun x hx=>by
    obtain⟨k,hk,h1⟩:=hdep i _ ho x hx;rcases h1 with rfl|h1
    ·exact hedge k hk
    ·have hki:k<i:=by have:=wo helt i ops[i] (by simp) k hk;omega
     have hko:ops[k]?=some (ops[k]'(by omega)):=CA (by omega)
     exact hclosed listed hcl (k+1) k _ (by omega) hko (hedge k hk) x h1
   have hafter:∀(j:Nat),i<j->((gH ops.toList []).getD j 0).testBit i=true->j<ops.size->listed.getD j false=false:=fun j hij hb hj=>by
    cases hx:listed.getD j false with
    |false=>rfl
    |true =>
     have hjo:ops[j]?=some ops[j]:=CA hj
     have:=hclosed listed hcl (j+1) j _ (by omega) hjo hx i hb
     rw[hil']at this;cases this
   obtain⟨eff,hpi⟩:=hop i _ ho;obtain⟨e,hei,hstep⟩:=HW hst hpi;have hesz:∀(j:Nat) (e':Ent),es[j]?=some e'->j<ops.size:=fun j e' hj=>by
    have:=(AN.1 hj).1
    rw[hst.1]at this;omega
   have hread:∀κ∈e.rd,(sub σ0 prs (fun k=>listed.getD k false) prs.length).get κ=(sub σ0 prs (fun _=>true) i).get κ:=fun κ hκ=>by
    have h1:(sub σ0 prs (fun k=>listed.getD k false) prs.length).get κ=(sub σ0 prs (fun k=>decide (k<i)) prs.length).get κ:=HX hst _ fun j e' hj he' hκ'=>by
     by_cases hji:j<i
     ·have:=hanc j (hcon j i e' e hji he' hei (by simp only[ni,wn hκ' hκ];rfl))
      rw[this];simp[hji]
     ·by_cases hij:j=i
      ·subst hij;rw[hil'];simp
      ·have hb:=hcon i j e e' (by omega) hei he' (by simp only[ni,wn hκ hκ'];simp)
       rw[hafter j (by omega) hb (hesz j e' he')]
       simp;omega
    rw[h1,Qm (i:=i) (fun j hj=>by simp;omega) prs.length (by have:=(AN.1 hpi).1;omega),wp i (L':=fun _=>true) fun j hj=>by simp[hj]]
   have hwp:=hstep.2.2 _ hread a w hse ro Q
   refine wpOpIn_mono (fun a' w' hse'=>?_) hwp
   have hset:∀k,(listed.setIfInBounds i true).getD k false=(listed.getD k false||decide (k=i)):=fun k=>by
    by_cases hk:k=i
    ·subst hk
     have:k<listed.size:=by omega
     simp[Array.getD,this]
    ·have hne:i≠k:=fun h=>hk h.symm
     simp[BO,CD hne,hk]
   refine ih (listed.setIfInBounds i true) a' w' (by simpa using hs) (fun S hS hSk=>?_) (fun j o hj hlj k hk=>?_) (hse'.ext fun κ=>?_)
   ·have hiS:i ∉ S:=fun hc=>by
     have:=(hSk i hc).2
     have ψ:i<listed.size:=by omega
     simp[Array.getD,ψ]at this
    have:=hcnt (i::S) (AZ.2 ⟨hiS,hS⟩) (fun k hk=>by
     rcases AG.1 hk with rfl|hk
     ·exact⟨hio,hil⟩
     ·refine⟨(hSk k hk).1,?_⟩
      have h1:=(hSk k hk).2
      have hne:i≠k:=fun hc=>hiS (hc ▸ hk)
      simpa[BO,CD hne]using h1)
    simp at this;omega
   ·rw[hset]at hlj⊢
    simp only[BR,Ab]at hlj⊢;rcases hlj with h1|h1
    ·exact .inl (hcl j o hj h1 k hk)
    ·subst h1
     have:o=ops[j]:=BJ (hj.symm.trans ho)
     subst this;exact .inl (hedge k hk)
   ·-- the states read alike
    have hfun:(fun k=>(listed.setIfInBounds i true).getD k false)=fun k=>(listed.getD k false||decide (k=i)):=funext hset
    rw[hfun];have hile:i<prs.length:=(AN.1 hpi).1
    by_cases hκ:κ∈e.wr
    ·rw[Qn hst (i:=i+1) (fun j e' hj he' hκ'=>by
      have hb:=hcon i j e e' (by omega) hei he' (by simp only[ni,wn hκ hκ'];simp)
      rw[hafter j (by omega) hb (hesz j e' he')]
      simp;omega) prs.length (by omega)]
     simp only[sub,hpi];simp only[hil',decide_true,Bool.or_true];exact hstep.2.1 κ hκ _ _
    ·rw[hstep.1 κ hκ]
     refine HX hst _ fun j e' hj he' hκ'=>?_
     have hne:j≠i:=fun hc=>by
      subst hc;have:e'=e:=BJ (he'.symm.trans hei)
      subst this;exact hκ hκ'
     simp[hne]
end
end Go.Sx
end
section
namespace Go.Sx
open Go.RowKit
abbrev Ren:=List (Nat×Option Nat)
def fV:List Prop->Prop
 | []=>True
 |p::l=>match l with
  | []=>p
  |q::r=>p/\fV (q::r)
theorem nj{p:Prop}{l:List Prop}:fV (p::l)↔p/\fV l:=by
 cases l<;>simp[fV]
theorem wq{l l':List Prop}:fV (l++l')↔fV l/\fV l':=by
 induction l with
 |nil=>simp[fV]
 |cons p l ih=>rw[Bj,nj,nj,ih,and_assoc]
def fG(ρ:Ren)(new:Nat)(old:Option Nat):Option Ren :=
 match lk ρ new with
 |none=>some ((new,old)::ρ)
 |some x=>match x,old with
  |some a,some b=>match Nat.beq a b with
   |true=>some ρ
   |false=>none
  |none,none=>some ρ
  |_,_=>none
def fo:FC->FC->Option Prop
 |.int k n,.int k' n'=>if k=k' then some (n=n')else none
 |.bool b,.bool b'=>some (b=b')
 |.str l,.str l'=>some (l=l')
 |.ints k l,.ints k' l'=>if k=k' then some (l=l')else none
 |.bools l,.bools l'=>some (l=l')
 |.rows k l,.rows k' l'=>if k=k' then some (l=l')else none
 |.r3 k l,.r3 k' l'=>if k=k' then some (l=l')else none
 |.r4 k l,.r4 k' l'=>if k=k' then some (l=l')else none
 |.p3 k l,.p3 k' l'=>if k=k' then some (l=l')else none
 |_,_=>none
def wt(σ:State)(o:Nat):Option Nat :=
 match σ.H o with
 |some (some ob)=>ob.len?
 |_=>none
def lP(σ:State)(o v:Nat):Bool :=
 match σ.H o with
 |some (some ob)=>Nat.beq ob.shp.ver v
 |_=>false
def wu(σ:State)(ρ:Ren)(c n:SC):Option (Ren×List Prop) :=
 match n with
 |.any=>some (ρ,[])
 |.und=>match c with
  |.und=>some (ρ,[])
  |_=>none
 |.int k' x'=>match c with
  |.int k x=>if k=k' then some (ρ,[x=x'])else none
  |_=>none
 |.bool x'=>match c with
  |.bool x=>some (ρ,[x=x'])
  |_=>none
 |.str x'=>match c with
  |.str x=>some (ρ,[x=x'])
  |_=>none
 |.nil=>match c with
  |.nil=>some (ρ,[])
  |_=>none
 |.own o'=>match c with
  |.own o=>match fG ρ o' (some o)with
   |some ρ'=>some (ρ',[])
   |none=>none
  |.nil=>match fG ρ o' none with
   |some ρ'=>some (ρ',[])
   |none=>none
  |_=>none
 |.pre o' x'=>match c with
  |.pre o x=>match fG ρ o' (some o)with
   |some ρ'=>some (ρ',[x=x'])
   |none=>none
  |.own o=>match wt σ o with
   |some L=>match fG ρ o' (some o)with
    |some ρ'=>some (ρ',[L=x'])
    |none=>none
   |none=>none
  |.nil=>match fG ρ o' none with
   |some ρ'=>some (ρ',[x'=0])
   |none=>none
  |_=>none
 |.sub o' y' x'=>match c with
  |.sub o y x=>match fG ρ o' (some o)with
   |some ρ'=>some (ρ',[y=y',x=x'])
   |none=>none
  |.pre o x=>match fG ρ o' (some o)with
   |some ρ'=>some (ρ',[0=y',x=x'])
   |none=>none
  |.own o=>match wt σ o with
   |some L=>match fG ρ o' (some o)with
    |some ρ'=>some (ρ',[0=y',L=x'])
    |none=>none
   |none=>none
  |_=>none
 |.ptr o' x'=>match c with
  |.ptr o x=>match fG ρ o' (some o)with
   |some ρ'=>match Nat.beq x x' with
    |true=>some (ρ',[])
    |false=>none
   |none=>none
  |_=>none
 |.row o' v' x'=>match c with
  |.row o v x=>match Nat.beq v' 0&&lP σ o v with
   |true=>match fG ρ o' (some o)with
    |some ρ'=>some (ρ',[x=x'])
    |none=>none
   |false=>none
  |_=>none
 |.ro d'=>match c with
  |.ro d=>match fo d d' with
   |some p=>some (ρ,[p])
   |none=>none
  |.own o=>match σ.H o with
   |some (some (.frz d))=>match fo d d' with
    |some p=>some (ρ,[p])
    |none=>none
   |_=>none
  |.pre o n=>match σ.H o with
   |some (some (.frz d))=>match cg 0 n d with
    |some d0=>match fo d0 d' with
     |some p=>some (ρ,[p])
     |none=>none
    |none=>none
   |_=>none
  |.sub o off n=>match σ.H o with
   |some (some (.frz d))=>match cg off n d with
    |some d0=>match fo d0 d' with
     |some p=>some (ρ,[p])
     |none=>none
    |none=>none
   |_=>none
  |.nil=>match dn d' with
   |true=>none
   |false=>some (ρ,[d'.len=0])
  |_=>none
 |.rob cs' x'=>match c with
  |.rob cs x=>some (ρ,[cs=cs',x=x'])
  |_=>none
 |.orig o' j' d'=>match c with
  |.orig o j d=>match Nat.beq j j'&&lP σ o 0 with
   |true=>match fG ρ o' (some o)with
    |some ρ'=>match fo d d' with
     |some p=>some (ρ',[p])
     |none=>none
    |none=>none
   |false=>none
  |_=>none
 |_=>none
def kG(σ:State):Ren->List SC->List SC->Option (Ren×List Prop)
 | ρ,[],[]=>some (ρ,[])
 | ρ,c::cs,n::ns=>match wu σ ρ c n with
  |some (ρ',ps)=>match kG σ ρ' cs ns with
   |some (ρ'',qs)=>some (ρ'',ps++qs)
   |none=>none
  |none=>none
 |_,_,_=>none
def HZ(σ:State)(ρ:Ren)(v n:SV):Option (Ren×List Prop) :=
 match v,n with
 |.c c,.c d=>wu σ ρ c d
 |.agg cs,.agg ns=>kG σ ρ cs ns
 |.fn f cs,.fn f' ns=>match Nat.beq f f' with
  |true=>kG σ ρ cs ns
  |false=>none
 |.fv F,.fv F'=>some (ρ,[F=F'])
 |.fvs o F,.fvs o' F'=>match fG ρ o' (some o)with
  |some ρ'=>some (ρ',[F=F'])
  |none=>none
 |_,_=>none
def qQ(σ:State):Ren->List (Nat×SV)->Option (Ren×List Prop)
 | ρ,[]=>some (ρ,[])
 | ρ,(t,n)::l=>match σ.F t with
  |some v=>match HZ σ ρ v n with
   |some (ρ',ps)=>match qQ σ ρ' l with
    |some (ρ'',qs)=>some (ρ'',ps++qs)
    |none=>none
   |none=>none
  |none=>none
def H0(σ:State)(pinned:Bool)(ρ:Ren)(ob n:Ob):Option (Ren×List Prop) :=
 match ob,n with
 |.box cs,.box ns=>kG σ ρ cs ns
 |.ints e k l,.ints e' k' l'=>if e=e'/\k=k' then some (ρ,[l=l'])else none
 |.bools e l,.bools e' l'=>if e=e' then some (ρ,[l=l'])else none
 |.strs e l,.strs e' l'=>if e=e' then some (ρ,[l=l'])else none
 |.rows v e ei k l,.rows v' e' ei' k' l'=>if e=e'/\ei=ei'/\k=k'/\(pinned=true->v<=v')then some (ρ,[l=l'])else none
 |.lst v e d,.lst v' e' d'=>if e=e'/\(pinned=true->v<=v')then(match fo d d' with|some p=>some (ρ,[p])|none=>none)else none
 |.mp l,.mp l'=>some (ρ,[l=l'])
 |.tr v es d,.tr v' es' d'=>match gC es es' with
  |true=>if pinned=true->v<=v' then(match fo d d' with|some p=>some (ρ,[p])|none=>none)else none
  |false=>none
 |.tr v (e1::e2::es) d,.trk v' es' d' n'=>match gC (e1::e2::es) es' with
  |true=>if pinned=true->v<=v' then(match fo d d' with|some p=>some (ρ,[p,n'=0])|none=>none)else none
  |false=>none
 |.trk v es d n,.trk v' es' d' n'=>match gC es es' with
  |true=>if pinned=true->v<=v' then(match fo d d' with|some p=>some (ρ,[p,n=n'])|none=>none)else none
  |false=>none
 |.qu e k l,.qu e' k' l'=>if e=e'/\k=k' then some (ρ,[l=l'])else none
 |.ints e k l,.qu e' k' l'=>if e=e'/\k=k' then some (ρ,[l=l'])else none
 |.yd v Y pre b,.yd v' Y' pre' b'=>some (ρ,[v=v',Y=Y',pre=pre',b=b'])
 |_,_=>none
def wv(n:Ob):Option Prop :=
 match n with
 |.ints _ _ l=>some (l=[])
 |.bools _ l=>some (l=[])
 |.rows _ _ _ _ l=>some (l=[])
 |.lst _ _ d=>some (d.len=0)
 |.tr _ es d=>match es with
  |_::_::es'=>if d.dep=es'.length+1 then some (d.len=0)else none
  |_=>none
 |_=>none
def nk(σ:State)(pins:List Nat):Ren->List (Nat×Option Ob)->Option (Ren×List Prop)
 | ρ,[]=>some (ρ,[])
 |_,(_,none)::_=>none
 | ρ,(o',some n)::l=>match lk ρ o' with
  |some (some o)=>match σ.H o with
   |some (some ob)=>match H0 σ (!(cA o' pins)) ρ ob n with
    |some (ρ',ps)=>match nk σ pins ρ' l with
     |some (ρ'',qs)=>some (ρ'',ps++qs)
     |none=>none
    |none=>none
   |_=>none
  |some none=>match wv n with
   |some p=>match nk σ pins ρ l with
    |some (ρ'',qs)=>some (ρ'',p::qs)
    |none=>none
   |none=>none
  |none=>none
def kH:Ren->List Nat
 | []=>[]
 |(_,some o)::l=>o::kH l
 |(_,none)::l=>kH l
def wx(hp:List (Nat×Option Ob)):Ren->Bool
 | []=>true
 |(k,_)::l=>(match lk hp k with
   |some (some _)=>true
   |_=>false)&&wx hp l
def wy(ρ:Ren):List Nat->Bool
 | []=>true
 |p::l=>(match lk ρ p with
   |some (some q)=>Nat.beq q p
   |_=>false)&&wy ρ l
def H1(σ n:State)(pins:List Nat):Option (List Prop) :=
 match qQ σ (pins.map fun p=>(p,some p)) n.fr with
 |none=>none
 |some (ρ,ps)=>match nk σ pins ρ n.hp with
  |none=>none
  |some (ρ',qs)=>match fm (kH ρ')&&wx n.hp ρ'&&wy ρ' pins&&fm (ρ'.map (·.1))with
   |true=>some (ps++qs)
   |false=>none
def lQ(σ:State)(o:Nat):List (Nat×Option Ob) :=
 match σ.H o with
 |some (some ob)=>match ob.isFz with
  |true=>[]
  |false=>match gb ob with
   |some d=>[(o,some (.frz d))]
   |none=>[]
 |_=>[]
def wz(σ:State)(o:Nat):List (Nat×Option Ob) :=
 match σ.H o with
 |some (some (.rows v e _ k l))=>[(o,some (.lst (v+1) e (.rows k l)))]
 |_=>[]
def wA(σ n:State)(c d:SC):List (Nat×Option Ob) :=
 match c,d with
 |.own o,.ro _=>lQ σ o
 |.pre o _,.ro _=>lQ σ o
 |.sub o _ _,.ro _=>lQ σ o
 |.own o,.own o'=>match n.H o' with
  |some (some (.lst _ _ _))=>wz σ o
  |_=>[]
 |_,_=>[]
def qR(σ n:State):List SC->List SC->List (Nat×Option Ob)
 |c::cs,d::ds=>wA σ n c d++qR σ n cs ds
 |_,_=>[]
def wB(σ n:State):List SC->List SC->List (Nat×Option Ob)
 |c::cs,d::ds=>(match c,d with
  |.ptr o _,.ptr o' _=>match σ.H o,n.H o' with
   |some (some (.box cs)),some (some (.box ns))=>qR σ n cs ns
   |_,_=>[]
  |_,_=>[])++wB σ n cs ds
 |_,_=>[]
def H2(σ n:State)(v d:SV):List (Nat×Option Ob) :=
 match v,d with
 |.c c,.c d=>match c,d with
  |.ptr o _,.ptr o' _=>match σ.H o,n.H o' with
   |some (some (.box cs)),some (some (.box ns))=>qR σ n cs ns
   |_,_=>[]
  |c,d=>wA σ n c d
 |.agg cs,.agg ns=>qR σ n cs ns
 |.fn _ cs,.fn _ ns=>wB σ n cs ns
 |_,_=>[]
def qS(σ n:State):List (Nat×SV)->List (Nat×Option Ob)
 | []=>[]
 |(t,d)::l=>match σ.F t with
  |some v=>H2 σ n v d++qS σ n l
  |none=>qS σ n l
def jQ:List (Nat×Option Ob)->List (Nat×Option Ob)
 | []=>[]
 |(o,x)::l=>match cA o ((jQ l).map (·.1))with
  |true=>(o,x)::jQ l
  |false=>jQ l
def Qo(σ n:State):State:=⟨σ.fr,jQ (qS σ n n.fr)++σ.hp⟩
def eH(ρ ρ':Ren):Prop:=∀o x,lk ρ o=some x->lk ρ' o=some x
theorem eH.refl(ρ:Ren):eH ρ ρ:=fun _ _ h=>h
theorem eH.trans{a b c:Ren}(h:eH a b)(k:eH b c):eH a c:=fun o x hx=>k o x (h o x hx)
theorem eY{ρ ρ':Ren}{n:Nat}{o:Option Nat}(h:fG ρ n o=some ρ'):eH ρ ρ'/\lk ρ' n=some o:=by
 unfold fG at h;split at h
 ·rename_i hn
  cases h;refine⟨fun x y hx=>?_,by simp[bm]⟩
  rw[bm];split
  ·rename_i hnx;subst hnx;rw[hn]at hx;cases hx
  ·exact hx
 ·rename_i x hx
  split at h
  ·split at h
   ·rename_i hab
    cases h;rw[AY hab]at hx;exact⟨.refl _,hx⟩
   ·cases h
  ·cases h;exact⟨.refl _,hx⟩
  ·cases h
theorem fW{d d':FC}{p:Prop}(h:fo d d'=some p)(hp:p):d=d':=by
 unfold fo at h;split at h
 ·split at h
  ·rename_i hk;cases h;rw[hk,hp]
  ·cases h
 ·cases h;rw[hp]
 ·cases h;rw[hp]
 ·split at h
  ·rename_i hk;cases h;rw[hk,hp]
  ·cases h
 ·cases h;rw[hp]
 ·split at h
  ·rename_i hk;cases h;rw[hk,hp]
  ·cases h
 ·split at h
  ·rename_i hk;cases h;rw[hk,hp]
  ·cases h
 ·split at h
  ·rename_i hk;cases h;rw[hk,hp]
  ·cases h
 ·split at h
  ·rename_i hk;cases h;rw[hk,hp]
  ·cases h
 ·cases h
theorem Qp{d:FC}(hs:dn d=false)(h:d.len=0)(w:World):bj w (.slice none 0 0) d:=by
 have key:∀(R:Nat->Value->Prop),bG w (.slice none 0 0) 0 R:=fun R=>⟨_,_,rfl,AE _,fun h0=>by omega⟩
 cases d with
 |int k n=>cases hs
 |bool b=>cases hs
 |str l=>cases hs
 |_=>rename_i l;cases l<;>first|exact key _|(simp[FC.len]at h)
section
variable {C:Cx} {σ n:State} {mu mu':Nat->Img} {a:Act} {w:World}
def kI(σ n:State)(mu mu':Nat->Img)(ρ:Ren):Prop :=
 ∀o' x,lk ρ o'=some x->∃nb,n.H o'=some (some nb)/\nb.isFz=false/\match x with
  |some o=>∃ob,σ.H o=some (some ob)/\ob.isFz=false/\nb.shp.len=ob.shp.len/\mu' o'=mu o/\∀L,ob.len?=some L->cp (mu o).hd 0 L (mu o).hd/\ob.shp.len=L
  |none=>(mu' o').hd=.slice none 0 0
theorem Qq{ρ ρ':Ren}{c d:SC}{ps:List Prop}(h:wu σ ρ c d=some (ρ',ps))(hp:fV ps):eH ρ ρ'/\∀ρf,eH ρ' ρf->kI σ n mu mu' ρf->∀v,ag (σ.env C.wF mu) c v->ag (n.env C.wF mu') d v:=by
 have ref:∀{o' o:Nat} {ρ'},fG ρ o' (some o)=some ρ'->∀{p q:Shp->Prop} {p2 q2:FC->Prop} {v},(∀s s',s'.len=s.len->mu' o'=mu o->p s->q s')->∀ρf,eH ρ' ρf->kI σ n mu mu' ρf->bR (σ.env C.wF mu) o v p p2->bR (n.env C.wF mu') o' v q q2:=fun {o' o ρ'} hb {p q p2 q2 v} hpq ρf hex hro hv=>by
  obtain⟨nb,h1,h1f,ob,h2,h2f,h3,h4,_⟩:=hro o' _ (hex _ _ (eY hb).2);have:=aK h2 hv
  exact eg h1 hv.1 (hpq _ _ h3 h4 this)
 have own:∀{o' o L:Nat} {ρ'},wt σ o=some L->fG ρ o' (some o)=some ρ'->∀{v} {ρf} {q2:FC->Prop},eH ρ' ρf->kI σ n mu mu' ρf->ag (σ.env C.wF mu) (.own o) v->bR (n.env C.wF mu') o' v (fun s=>L<=s.len/\cp (mu' o').hd 0 L v) q2:=fun {o' o L ρ'} hL hb {v ρf q2} hex hro hv=>by
  obtain⟨nb,h1,h1f,ob,h2,h2f,h3,h4,h5⟩:=hro o' _ (hex _ _ (eY hb).2);have:=aK h2 hv
  unfold wt at hL;rw[h2]at hL;obtain⟨h6,h7⟩:=h5 L hL;refine eg h1 hv.1 ⟨by rw[h3,h7];exact AE _,?_⟩
  rw[h4,show v=(mu o).hd from this]
  exact h6
 unfold wu at h;split at h
 ·cases h;exact⟨.refl _,fun _ _ _ _ _=>trivial⟩
 ·split at h
  ·cases h;exact⟨.refl _,fun _ _ _ v hv=>hv⟩
  ·cases h
 ·split at h
  ·split at h
   ·rename_i hk;cases h;exact⟨.refl _,fun _ _ _ v hv=>by simp only[ag]at hv⊢;rw[hv,hk,show _=_ from hp]⟩
   ·cases h
  ·cases h
 ·split at h
  ·cases h;exact⟨.refl _,fun _ _ _ v hv=>by simp only[ag]at hv⊢;rw[hv,show _=_ from hp]⟩
  ·cases h
 ·split at h
  ·cases h;exact⟨.refl _,fun _ _ _ v hv=>by simp only[ag]at hv⊢;rw[hv,show _=_ from hp]⟩
  ·cases h
 ·split at h
  ·cases h;exact⟨.refl _,fun _ _ _ v hv=>hv⟩
  ·cases h
 ·split at h
  ·split at h
   ·rename_i hb
    cases h;exact⟨(eY hb).1,fun ρf hex hro v hv=>ref hb (p:=fun _=>v=(mu _).hd) (fun s s' _ h2 h3=>by show v=(mu' _).hd;rw[h2];exact h3) ρf hex hro hv⟩
   ·cases h
  ·split at h
   ·rename_i hb
    cases h;refine⟨(eY hb).1,fun ρf hex hro v hv=>?_⟩
    obtain⟨nb,h1,h1f,h2⟩:=hro _ _ (hex _ _ (eY hb).2);simp only[ag]at hv;subst hv;refine eg h1 rfl ?_
    show _=(mu' _).hd
    rw[show(mu' _).hd=_ from h2]
   ·cases h
  ·cases h
 ·split at h
  ·split at h
   ·rename_i hb
    cases h;exact⟨(eY hb).1,fun ρf hex hro v hv=>ref hb (p:=fun s=>_<=s.len/\cp (mu _).hd 0 _ v) (fun s s' h1 h2 h3=>by
     rw[<-show _=_ from hp]
     show _<=s'.len/\cp (mu' _).hd 0 _ v
     rw[h2,h1];exact h3) ρf hex hro hv⟩
   ·cases h
  ·split at h
   ·rename_i hL
    split at h
    ·rename_i hb
     cases h;exact⟨(eY hb).1,fun ρf hex hro v hv=>by
      have hp:_=_:=hp
      subst hp;exact own hL hb hex hro hv⟩
    ·cases h
   ·cases h
  ·split at h
   ·rename_i hb
    cases h;refine⟨(eY hb).1,fun ρf hex hro v hv=>?_⟩
    obtain⟨nb,h1,h1f,h2⟩:=hro _ _ (hex _ _ (eY hb).2);simp only[ag]at hv;subst hv;refine eg h1 rfl ⟨by rw[show _=_ from hp];exact AQ _,.inl ⟨?_,rfl,rfl,hp⟩⟩
    show(mu' _).hd=_
    exact h2
   ·cases h
  ·cases h
 ·split at h
  ·split at h
   ·rename_i hb
    cases h;obtain⟨hp1,hp2⟩:=nj.1 hp;exact⟨(eY hb).1,fun ρf hex hro v hv=>ref hb (p:=fun s=>_+_<=s.len/\cp (mu _).hd _ _ v) (fun s s' h1 h2 h3=>by
     rw[<-hp1,<-show _=_ from hp2]
     show _+_<=s'.len/\cp (mu' _).hd _ _ v
     rw[h2,h1];exact h3) ρf hex hro hv⟩
   ·cases h
  ·split at h
   ·rename_i hb
    cases h;obtain⟨hp1,hp2⟩:=nj.1 hp;exact⟨(eY hb).1,fun ρf hex hro v hv=>ref hb (p:=fun s=>_<=s.len/\cp (mu _).hd 0 _ v) (fun s s' h1 h2 h3=>by
     rw[<-hp1,<-show _=_ from hp2]
     show 0+_<=s'.len/\cp (mu' _).hd 0 _ v
     rw[h2,h1,AJ];exact h3) ρf hex hro hv⟩
   ·cases h
  ·split at h
   ·rename_i hL
    split at h
    ·rename_i hb
     cases h;obtain⟨hp1,hp2⟩:=nj.1 hp;exact⟨(eY hb).1,fun ρf hex hro v hv=>by
      have hp1:0=_:=hp1
      have hp2:_=_:=hp2
      subst hp1;subst hp2
      show bR _ _ _ (fun s=>0+_<=s.len/\_) _
      rw[AJ];exact own hL hb hex hro hv⟩
    ·cases h
   ·cases h
  ·cases h
 ·split at h
  ·split at h
   ·rename_i hb
    split at h
    ·rename_i hx
     cases h;have hx:=AY hx
     exact⟨(eY hb).1,fun ρf hex hro v hv=>ref hb (p:=fun s=>_<s.len/\∃b,ae (mu _).hd=some b/\v=.pointer (some ⟨b,_,none⟩)) (fun s s' h1 h2 h3=>by
      rw[<-hx]
      show _<s'.len/\∃b,ae (mu' _).hd=some b/\v=.pointer (some ⟨b,_,none⟩)
      rw[h2,h1];exact h3) ρf hex hro hv⟩
    ·cases h
   ·cases h
  ·cases h
 ·split at h
  ·split at h
   ·rename_i hf
    split at h
    ·rename_i hb
     cases h;rw[AL]at hf;have hz:=AY hf.1
     refine⟨(eY hb).1,fun ρf hex hro v hv=>?_⟩
     obtain⟨nb,h1,h1f,ob,h2,h2f,h3,h4,_⟩:=hro _ _ (hex _ _ (eY hb).2);have hfr:=hf.2
     unfold lP at hfr;rw[h2]at hfr;have h5:=AY hfr
     have h6:=aK h2 hv
     refine eg h1 hv.1 ⟨by rw[hz];exact AQ _,fun _=>?_⟩
     rw[h3,<-show _=_ from hp]
     show(mu' _).ins[_]?=some v/\_
     rw[h4];exact h6.2 h5
    ·cases h
   ·cases h
  ·cases h
 ·split at h
  ·split at h
   ·rename_i hd
    cases h;have:=fW hd hp
    subst this;exact⟨.refl _,fun _ _ _ v hv=>hv⟩
   ·cases h
  ·split at h
   ·rename_i ho
    split at h
    ·rename_i hd
     cases h;have:=fW hd hp
     subst this;refine⟨.refl _,fun _ _ _ v hv=>?_⟩
     have h2:=hv.2
     have e:(σ.env C.wF mu).st _=.frz _:=fE ho
     rw[e]at h2;exact h2
    ·cases h
   ·cases h
  ·split at h
   ·rename_i ho
    split at h
    ·rename_i ht
     split at h
     ·rename_i hd
      cases h;have:=fW hd hp
      subst this;refine⟨.refl _,fun _ _ _ v hv=>?_⟩
      have h2:=hv.2
      have e:(σ.env C.wF mu).st _=.frz _:=fE ho
      rw[e]at h2;obtain⟨d',q1,q2⟩:=h2;rw[ht]at q1;cases q1;exact q2
     ·cases h
    ·cases h
   ·cases h
  ·split at h
   ·rename_i ho
    split at h
    ·rename_i ht
     split at h
     ·rename_i hd
      cases h;have:=fW hd hp
      subst this;refine⟨.refl _,fun _ _ _ v hv=>?_⟩
      have h2:=hv.2
      have e:(σ.env C.wF mu).st _=.frz _:=fE ho
      rw[e]at h2;obtain⟨d',q1,q2⟩:=h2;rw[ht]at q1;cases q1;exact q2
     ·cases h
    ·cases h
   ·cases h
  ·split at h
   ·cases h
   ·rename_i hs
    cases h;refine⟨.refl _,fun _ _ _ v hv=>?_⟩
    simp only[ag]at hv;subst hv;exact⟨⟨_,_,_,rfl,AE _⟩,Qp hs hp _⟩
  ·cases h
 ·split at h
  ·cases h
   obtain⟨hp1,hp2⟩:=nj.1 hp;have hp2:_=_:=hp2
   subst hp1;subst hp2;exact⟨.refl _,fun _ _ _ v hv=>hv⟩
  ·cases h
 ·split at h
  ·split at h
   ·rename_i hf
    split at h
    ·rename_i hb
     split at h
     ·rename_i hd
      cases h;have:=fW hd hp
      subst this;rw[AL]at hf;have hj:=AY hf.1
      refine⟨(eY hb).1,fun ρf hex hro v hv=>⟨hv.1,?_⟩⟩
      obtain⟨nb,h1,h1f,ob,h2,h2f,h3,h4,_⟩:=hro _ _ (hex _ _ (eY hb).2);have hfr:=hf.2
      unfold lP at hfr;rw[h2]at hfr;have h5:=AY hfr
      have h6:=aK h2 hv.2
      refine eg h1 hv.2.1 fun _=>?_
      show(mu' _).ins[_]?=_
      rw[h4,<-hj];exact h6 h5
     ·cases h
    ·cases h
   ·cases h
  ·cases h
 ·cases h
theorem wD:∀{cs ns:List SC} {ρ ρ':Ren} {ps:List Prop},kG σ ρ cs ns=some (ρ',ps)->fV ps->eH ρ ρ'/\ns.length=cs.length/\∀ρf,eH ρ' ρf->kI σ n mu mu' ρf->∀arr,c7 (σ.env C.wF mu) cs arr->c7 (n.env C.wF mu') ns arr
 | [],[],ρ,ρ',ps,h,hp=>by
  simp only[kG]at h;cases h;exact⟨.refl _,rfl,fun _ _ _ arr ha=>⟨ha.1,fun i c hc=>by simp at hc⟩⟩
 | [],_::_,ρ,ρ',ps,h,_=>by simp[kG]at h
 |_::_,[],ρ,ρ',ps,h,_=>by simp[kG]at h
 |c::cs,d::ns,ρ,ρ',ps,h,hp=>by
  simp only[kG]at h;split at h
  ·rename_i ρ1 ps1 h1
   split at h
   ·rename_i ρ2 qs h2
    cases h;obtain⟨hp1,hp2⟩:=wq.1 hp;obtain⟨k1,k2⟩:=Qq (C:=C) (σ:=σ) (n:=n) (mu:=mu) (mu':=mu') h1 hp1;obtain⟨m1,m2,m3⟩:=wD h2 hp2;refine⟨k1.trans m1,by simp[m2],fun ρf hex hro arr ha=>⟨by rw[ha.1];simp[m2],fun i x hx=>?_⟩⟩
    have tl:c7 (σ.env C.wF mu) cs (arr.extract 1 arr.size):=by
     have hsz:=ha.1
     simp only[AS]at hsz;refine⟨by simp[hsz],fun j y hy=>?_⟩
     obtain⟨u,q1,q2⟩:=ha.2 (j+1) y (by simpa using hy)
     have ψ:j+1<arr.size:=(BC.1 q1).1
     refine⟨u,?_,q2⟩
     rw[Cb,AA (by omega),Ci 1 j]
     exact q1
    cases i with
    |zero =>
     simp at hx;subst hx
     obtain⟨u,q1,q2,q3⟩:=ha.2 0 c rfl;exact⟨u,q1,q2,k2 ρf (m1.trans hex) hro u q3⟩
    |succ i =>
     obtain⟨u,q1,q2⟩:=(m3 ρf hex hro _ tl).2 i x (by simpa using hx)
     refine⟨u,?_,q2⟩
     have ψ:=(BC.1 q1).1
     simp at ψ
     rw[Cb,AA (by omega),Ci 1 i]at q1
     exact q1
   ·cases h
  ·cases h
theorem aa3{ρ ρ':Ren}{v d:SV}{ps:List Prop}(h:HZ σ ρ v d=some (ρ',ps))(hp:fV ps):eH ρ ρ'/\∀ρf,eH ρ' ρf->kI σ n mu mu' ρf->∀u,av C.P (σ.env C.wF mu) v u->av C.P (n.env C.wF mu') d u:=by
 unfold HZ at h;split at h
 ·exact Qq h hp
 ·obtain⟨h1,_,h2⟩:=wD (C:=C) (σ:=σ) (n:=n) (mu:=mu) (mu':=mu') h hp
  refine⟨h1,fun ρf hex hro u hu=>?_⟩
  obtain⟨arr,rfl,ha⟩:=hu;exact⟨arr,rfl,h2 ρf hex hro arr ha⟩
 ·split at h
  ·rename_i hf
   obtain⟨h1,_,h2⟩:=wD (C:=C) (σ:=σ) (n:=n) (mu:=mu) (mu':=mu') h hp;refine⟨h1,fun ρf hex hro u hu=>?_⟩
   obtain⟨arr,rfl,ha⟩:=hu;exact⟨arr,by rw[AY hf],h2 ρf hex hro arr ha⟩
  ·cases h
 ·cases h
  have hp:_=_:=hp
  subst hp;exact⟨.refl _,fun _ _ _ u hu=>hu⟩
 ·rename_i o F o' F'
  cases hb:fG ρ o' (some o)with
  |none=>simp[hb]at h
  |some ρ1 =>
   simp[hb]at h
   obtain⟨rfl,rfl⟩:=h;have hp:F=F':=hp
   subst hp;refine⟨(eY hb).1,fun ρf hex hro u hu=>?_⟩
   have hu:bR _ _ _ _:=hu
   obtain⟨nb,h1,h1f,ob,h2,h2f,h3,h4,_⟩:=hro o' _ (hex _ _ (eY hb).2);obtain⟨b,hb1,hb2⟩:=aK h2 hu;exact eg h1 hu.1 ⟨b,(show(mu' o').hd=_ by rw[h4];exact hb1),hb2⟩
 ·cases h
theorem Qr:∀{l:List (Nat×SV)} {ρ ρ':Ren} {ps:List Prop},qQ σ ρ l=some (ρ',ps)->fV ps->eH ρ ρ'/\∀ρf,eH ρ' ρf->kI σ n mu mu' ρf->∀t d,lk l t=some d->∃v,σ.F t=some v/\∀u,av C.P (σ.env C.wF mu) v u->av C.P (n.env C.wF mu') d u
 | [],ρ,ρ',ps,h,hp=>by
  simp only[qQ]at h;cases h;exact⟨.refl _,fun _ _ _ t d ht=>by simp[lk]at ht⟩
 |(t0,d0)::l,ρ,ρ',ps,h,hp=>by
  simp only[qQ]at h;split at h
  ·rename_i v hv
   split at h
   ·rename_i ρ1 ps1 h1
    split at h
    ·rename_i ρ2 qs h2
     cases h;obtain⟨hp1,hp2⟩:=wq.1 hp;obtain⟨k1,k2⟩:=aa3 (C:=C) (σ:=σ) (n:=n) (mu:=mu) (mu':=mu') h1 hp1;obtain⟨m1,m2⟩:=Qr h2 hp2;refine⟨k1.trans m1,fun ρf hex hro t d ht=>?_⟩
     rw[bm]at ht;split at ht
     ·rename_i htt;subst htt;cases ht
      exact⟨v,hv,k2 ρf (m1.trans hex) hro⟩
     ·exact m2 ρf hex hro t d ht
    ·cases h
   ·cases h
  ·cases h
theorem aa4{pd:Bool}{ρ ρ':Ren}{ob nb:Ob}{ps:List Prop}(h:H0 σ pd ρ ob nb=some (ρ',ps))(hp:fV ps):eH ρ ρ'/\(nb.shp.len=ob.shp.len/\nb.isFz=false/\ob.isFz=false)/\(pd=true->ob.shp.ver<=nb.shp.ver) /\
  ∀ρf,eH ρ' ρf->kI σ n mu mu' ρf->∀m,aO (σ.env C.wF mu) w m ob->aO (n.env C.wF mu') w m nb:=by
 unfold H0 at h;split at h
 ·obtain⟨h1,h2,h3⟩:=wD (C:=C) (σ:=σ) (n:=n) (mu:=mu) (mu':=mu') h hp
  refine⟨h1,⟨h2,rfl,rfl⟩,fun _=>AE _,fun ρf hex hro m hm=>?_⟩
  obtain⟨b,arr,t,q1,q2,q3,q4⟩:=hm;exact⟨b,arr,t,q1,q2,q3,h3 ρf hex hro arr q4⟩
 ·split at h
  ·rename_i hk
   obtain⟨rfl,rfl⟩:=hk;cases h;have hp:_=_:=hp
   subst hp;exact⟨.refl _,⟨rfl,rfl,rfl⟩,fun _=>AE _,fun _ _ _ m hm=>hm⟩
  ·cases h
 ·split at h
  ·rename_i hk
   subst hk;cases h;have hp:_=_:=hp
   subst hp;exact⟨.refl _,⟨rfl,rfl,rfl⟩,fun _=>AE _,fun _ _ _ m hm=>hm⟩
  ·cases h
 ·split at h
  ·rename_i hk
   subst hk;cases h;have hp:_=_:=hp
   subst hp;exact⟨.refl _,⟨rfl,rfl,rfl⟩,fun _=>AE _,fun _ _ _ m hm=>hm⟩
  ·cases h
 ·split at h
  ·rename_i hk
   obtain⟨rfl,rfl,rfl,hv⟩:=hk;cases h;have hp:_=_:=hp
   subst hp;exact⟨.refl _,⟨rfl,rfl,rfl⟩,hv,fun _ _ _ m hm=>hm⟩
  ·cases h
 ·split at h
  ·rename_i hk
   obtain⟨rfl,hv⟩:=hk;split at h
   ·rename_i hd
    cases h;have:=fW hd hp
    subst this;exact⟨.refl _,⟨rfl,rfl,rfl⟩,hv,fun _ _ _ m hm=>hm⟩
   ·cases h
  ·cases h
 ·cases h
  have hp:_=_:=hp
  subst hp;exact⟨.refl _,⟨rfl,rfl,rfl⟩,fun _=>AE _,fun _ _ _ m hm=>hm⟩
 ·split at h
  ·rename_i hes
   have hes:=i7 hes
   subst hes;split at h
   ·rename_i hv
    split at h
    ·rename_i hd
     cases h;have:=fW hd hp
     subst this;exact⟨.refl _,⟨rfl,rfl,rfl⟩,hv,fun _ _ _ m hm=>hm⟩
    ·cases h
   ·cases h
  ·cases h
 ·split at h
  ·rename_i hes
   have hes:=i7 hes
   subst hes;split at h
   ·rename_i hv
    split at h
    ·rename_i hd
     cases h;obtain⟨hp,rfl⟩:_/\_=_:=hp;have:=fW hd hp
     subst this;exact⟨.refl _,⟨rfl,rfl,rfl⟩,hv,fun _ _ _ m hm=>let⟨nd,h1,h2⟩:=hm;⟨nd,h1,h2.k⟩⟩
    ·cases h
   ·cases h
  ·cases h
 ·split at h
  ·rename_i hes
   have hes:=i7 hes
   subst hes;split at h
   ·rename_i hv
    split at h
    ·rename_i hd
     cases h;obtain⟨hp,rfl⟩:_/\_=_:=hp;have:=fW hd hp
     subst this;exact⟨.refl _,⟨rfl,rfl,rfl⟩,hv,fun _ _ _ m hm=>hm⟩
    ·cases h
   ·cases h
  ·cases h
 ·split at h
  ·rename_i hk
   obtain⟨rfl,rfl⟩:=hk;cases h;have hp:_=_:=hp
   subst hp;exact⟨.refl _,⟨rfl,rfl,rfl⟩,fun _=>AE _,fun _ _ _ m hm=>hm⟩
  ·cases h
 ·split at h
  ·rename_i hk
   obtain⟨rfl,rfl⟩:=hk;cases h;have hp:_=_:=hp
   subst hp;exact⟨.refl _,⟨rfl,rfl,rfl⟩,fun _=>AE _,fun _ _ _ m hm=>⟨hm.1,Hq hm.2⟩⟩
  ·cases h
 ·cases h
  obtain⟨rfl,rfl,rfl,rfl⟩:=hp;exact⟨.refl _,⟨rfl,rfl,rfl⟩,fun _=>AE _,fun _ _ _ m hm=>hm⟩
 ·cases h
theorem aa5{nb:Ob}{p:Prop}(h:wv nb=some p):nb.isFz=false:=by cases nb<;>first|rfl|cases h
theorem Qs{nb:Ob}{p:Prop}(h:wv nb=some p)(hp:p)(E:Env):aO E w (iK nb) nb/\(iK nb).blocks=[]:=by
 unfold wv at h;split at h
 ·cases h;have hp:_=_:=hp;subst hp;exact⟨⟨rfl,World.ownsRow_nil _ _ _ _⟩,rfl⟩
 ·cases h;have hp:_=_:=hp;subst hp;exact⟨⟨rfl,World.ownsRow_nil _ _ _ _⟩,rfl⟩
 ·cases h;have hp:_=_:=hp;subst hp;exact⟨⟨World.ownsRow_nil _ _ _ _,rfl,fun i v r hi=>by simp[iK]at hi⟩,rfl⟩
 ·cases h
  have hp:_=_:=hp
  exact⟨⟨rfl,[],by rw[hp];exact World.ownsRow_nil _ _ _ _,fun i u hi=>by simp at hi⟩,rfl⟩
 ·rename_i d
  split at h
  ·rename_i e1 e2 es'
   split at h
   ·rename_i hd
    cases h;have hp:_=_:=hp
    have hT:bf w (e1::e2::es') (bp (.slice none 0 0) []) d:=by
     refine⟨rfl,hd,?_,fun i u y hu=>by simp[cR]at hu⟩
     rw[hp];exact World.ownsRow_nil _ _ _ _
    refine⟨⟨_,rfl,hT⟩,?_⟩
    show(dr (e1::e2::es').length (bp (.slice none 0 0) [])).blocks=[]
    rw[d9 hT,Hb]
   ·cases h
  ·cases h
 ·cases h
theorem H3{pins:List Nat}:∀{l:List (Nat×Option Ob)} {ρ ρ':Ren} {ps:List Prop},nk σ pins ρ l=some (ρ',ps)->fV ps->eH ρ ρ' /\
  ∀o' x,lk l o'=some x->∃nb,x=some nb/\nb.isFz=false/\∃y,lk ρ' o'=some y/\match y with
   |some o=>∃ob,σ.H o=some (some ob)/\ob.isFz=false/\nb.shp.len=ob.shp.len/\(o'∈pins->ob.shp.ver<=nb.shp.ver)/\∀ρf,eH ρ' ρf->kI σ n mu mu' ρf->∀m,aO (σ.env C.wF mu) w m ob->aO (n.env C.wF mu') w m nb
   |none=>(∀E,aO E w (iK nb) nb)/\(iK nb).blocks=[]
 | [],ρ,ρ',ps,h,hp=>by
  simp only[nk]at h;cases h;exact⟨.refl _,fun o' x hx=>by simp[lk]at hx⟩
 |(_,none)::_,ρ,ρ',ps,h,_=>by simp[nk]at h
 |(o0,some n0)::l,ρ,ρ',ps,h,hp=>by
  simp only[nk]at h;split at h
  ·rename_i o ho
   split at h
   ·rename_i ob hob
    split at h
    ·rename_i ρ1 ps1 h1
     split at h
     ·rename_i ρ2 qs h2
      cases h;obtain⟨hp1,hp2⟩:=wq.1 hp;obtain⟨k1,k2,k3,k4⟩:=aa4 (C:=C) (σ:=σ) (n:=n) (mu:=mu) (mu':=mu') (w:=w) h1 hp1;obtain⟨m1,m2⟩:=H3 h2 hp2;refine⟨k1.trans m1,fun o' x hx=>?_⟩
      rw[bm]at hx;split at hx
      ·rename_i hoo;subst hoo;cases hx
       refine⟨n0,rfl,k2.2.1,some o,m1 _ _ (k1 _ _ ho),ob,hob,k2.2.2,k2.1,fun hpin=>k3 ?_,fun ρf hex hro m hm=>k4 ρf (m1.trans hex) hro m hm⟩
       cases hn:cA o0 pins with
       |false=>rfl
       |true=>exact absurd hpin (jj hn)
      ·exact m2 o' x hx
     ·cases h
    ·cases h
   ·cases h
  ·rename_i ho
   split at h
   ·rename_i p hnil
    split at h
    ·rename_i ρ2 qs h2
     cases h;obtain⟨hp1,hp2⟩:=nj.1 hp;obtain⟨m1,m2⟩:=H3 h2 hp2;refine⟨m1,fun o' x hx=>?_⟩
     rw[bm]at hx;split at hx
     ·rename_i hoo;subst hoo;cases hx
      exact⟨n0,rfl,aa5 hnil,none,m1 _ _ ho,fun E=>(Qs hnil hp1 E).1,(Qs (w:=w) hnil hp1 (E0 w)).2⟩
     ·exact m2 o' x hx
    ·cases h
   ·cases h
  ·cases h
theorem H4{hp:List (Nat×Option Ob)}:∀{ρ:Ren},wx hp ρ=true->∀o x,lk ρ o=some x->∃nb,lk hp o=some (some nb)
 | [],_,o,x,h=>by simp[lk]at h
 |(k,y)::ρ,hk,o,x,h=>by
  simp only[wx,AL]at hk;rw[bm]at h;split at h
  ·rename_i hko;subst hko
   have:=hk.1
   split at this
   ·rename_i nb hnb;exact⟨nb,hnb⟩
   ·cases this
  ·exact H4 hk.2 o x h
theorem Qt{ρ:Ren}:∀{pins:List Nat},wy ρ pins=true->∀p∈pins,lk ρ p=some (some p)
 | [],_,p,h=>by simp at h
 |q::pins,hk,p,h=>by
  simp only[wy,AL]at hk;rcases AG.1 h with rfl|h
  ·have:=hk.1
   split at this
   ·rename_i q hq;rw[hq,AY this]
   ·cases this
  ·exact Qt hk.2 p h
theorem wE:∀{ρ:Ren} {k o:Nat},(k,some o)∈ρ->o∈kH ρ
 | [],_,_,h=>by simp at h
 |(k',some o')::ρ,k,o,h=>by
  simp only[kH];rcases AG.1 h with h|h
  ·cases h;simp
  ·exact AO _ (wE h)
 |(k',none)::ρ,k,o,h=>by
  simp only[kH];rcases AG.1 h with h|h
  ·cases h
  ·exact wE h
theorem H5:∀{ρ:Ren},(kH ρ).Nodup->∀k k' o,(k,some o)∈ρ->(k',some o)∈ρ->(k,some o)=((k',some o):Nat×Option Nat)
 | [],_,k,k',o,h,_=>by simp at h
 |(q,none)::ρ,hn,k,k',o,h,h'=>by
  simp only[kH]at hn;rcases AG.1 h with h|h
  ·cases h
  ·rcases AG.1 h' with h' |h'
   ·cases h'
   ·exact H5 hn k k' o h h'
 |(q,some x)::ρ,hn,k,k',o,h,h'=>by
  simp only[kH]at hn;obtain⟨h1,h2⟩:=AZ.1 hn;rcases AG.1 h with h|h
  ·rcases AG.1 h' with h' |h'
   ·rw[h,h']
   ·cases h;exact absurd (wE h') h1
  ·rcases AG.1 h' with h' |h'
   ·cases h';exact absurd (wE h) h1
   ·exact H5 h2 k k' o h h'
theorem nm{α:Type}:∀{l:List (Nat×α)} {o:Nat} {x:α},lk l o=some x->(o,x)∈l
 | [],o,x,h=>by simp[lk]at h
 |(k,v)::l,o,x,h=>by
  rw[bm]at h;split at h
  ·rename_i hk;subst hk;cases h;simp
  ·exact AO _ (nm h)
theorem Qu{pins:List Nat}(hpins:∀o m,C.pin o=some m->o∈pins){ps:List Prop}(hs:H1 σ n pins=some ps)(hp:fV ps)(h:ax C σ a w):ax C n a w:=by
 obtain⟨wG,mu,hgf,h⟩:=h;unfold H1 at hs;split at hs
 ·cases hs
 ·rename_i ρ ps1 h1
  split at hs
  ·cases hs
  ·rename_i ρ' qs h2
   split at hs
   ·rename_i hchk
    cases hs;simp only[AL]at hchk;obtain⟨⟨⟨hn,hk⟩,hpi⟩,_⟩:=hchk;obtain⟨hp1,hp2⟩:=wq.1 hp
    let mu':Nat->Img:=fun o'=>match lk ρ' o' with
     |some (some o)=>mu o
     |some none=>match n.H o' with
      |some (some nb)=>iK nb
      |_=>⟨.slice none 0 0,[]⟩
     |none=>⟨undef,[]⟩
    obtain⟨k1,k2⟩:=Qr (C:=C.fz wG) (σ:=σ) (n:=n) (mu:=mu) (mu':=mu') h1 hp1;obtain⟨m1,m2⟩:=H3 (C:=C.fz wG) (σ:=σ) (n:=n) (mu:=mu) (mu':=mu') (w:=w) h2 hp2;have hro:kI σ n mu mu' ρ':=fun o' x hx=>by
     obtain⟨nb,hnb⟩:=H4 hk o' x hx;have hnb':n.H o'=some (some nb):=hnb
     obtain⟨nb',e1,e1f,y,e2,e3⟩:=m2 o' _ hnb;cases e1;have:y=x:=BJ (e2.symm.trans hx)
     subst this;refine⟨nb,hnb,e1f,?_⟩
     cases y with
     |some o =>
      obtain⟨ob,q1,q1f,q2,_⟩:=e3;exact⟨ob,q1,q1f,q2,by simp only[mu',hx],fun L hL=>qt hL (h.ob o ob q1)⟩
     |none=>simp only[mu',hx,hnb'];exact P0 nb
    have hob:∀o' nb,n.H o'=some (some nb)->(∃o ob,lk ρ' o'=some (some o)/\σ.H o=some (some ob)/\mu' o'=mu o/\(nb.isFz=false/\ob.isFz=false)/\(o'∈pins->ob.shp.ver<=nb.shp.ver)/\aO (n.env wG mu') w (mu' o') nb) \/
      (lk ρ' o'=some none/\(mu' o').blocks=[]/\aO (n.env wG mu') w (mu' o') nb):=fun o' nb hnb=>by
     obtain⟨nb',e1,e1f,y,e2,e3⟩:=m2 o' _ hnb;cases e1;cases y with
     |some o =>
      obtain⟨ob,q1,q1f,q2,q3,q4⟩:=e3;have hmu:mu' o'=mu o:=by simp only[mu',e2]
      exact .inl ⟨o,ob,e2,q1,hmu,⟨e1f,q1f⟩,q3,by rw[hmu];exact q4 ρ' (.refl _) hro _ (h.ob o ob q1)⟩
     |none =>
      have hmu:mu' o'=iK nb:=by simp only[mu',e2,hnb]
      exact .inr ⟨e2,by rw[hmu];exact e3.2,by rw[hmu];exact e3.1 _⟩
    have hdf:km (C.fz wG).w0.heap.size n mu' a.defers w:=by
     obtain⟨rs,z1,z2,z3⟩:=h.df;refine⟨rs,z1,z2,fun r hr=>?_⟩
     obtain⟨y1,y2,y3⟩:=z3 r hr;refine⟨y1,y2,fun o' nb ho hb=>?_⟩
     rcases hob o' nb ho with⟨o,ob,_,q1,q2,_⟩|⟨_,q2,_⟩
     ·rw[q2]at hb;exact y3 o ob q1 hb
     ·rw[q2]at hb;simp[Img.blocks,ae]at hb
    refine⟨wG,mu',hgf,h.os,h.tape,h.output,h.size,h.block,fun p u hp=>⟨fun o' nb ho hb=>?_,(h.cells p u hp).2⟩,h.sz,hdf,fun t sv ht=>?_,fun o' nb ho=>?_,fun o' nb ho=>?_,fun o1 o2 n1 n2 hne ho1 ho2 b hb hb'=>?_,fun o m hpm=>?_⟩
    ·rcases hob o' nb ho with⟨o,ob,_,q1,q2,_⟩|⟨_,q2,_⟩
     ·rw[q2]at hb;exact(h.cells p u hp).1 o ob q1 hb
     ·rw[q2]at hb;simp[Img.blocks,ae]at hb
    ·obtain⟨v,q1,q2⟩:=k2 ρ' m1 hro t sv ht
     exact q2 _ (h.fr t v q1)
    ·rcases hob o' nb ho with⟨_,_,_,_,_,_,_,q⟩|⟨_,_,q⟩<;>exact q
    ·rcases hob o' nb ho with⟨o,ob,_,q1,q2,_⟩|⟨_,q2,_⟩
     ·rw[q2];exact h.nd o ob q1
     ·rw[q2];simp[Img.blocks,ae]
    ·rcases hob o1 n1 ho1 with⟨x1,y1,l1,q1,q2,_⟩|⟨_,q2,_⟩
     ·rcases hob o2 n2 ho2 with⟨x2,y2,l2,r1,r2,_⟩|⟨_,r2,_⟩
      ·rw[q2]at hb;rw[r2]at hb'
       refine h.sep x1 x2 y1 y2 (fun hc=>hne ?_) q1 r1 b hb hb'
       subst hc;have:=H5 (kC hn) o1 o2 x1 (nm l1) (nm l2)
       simpa using this
      ·rw[r2]at hb';simp[Img.blocks,ae]at hb'
     ·rw[q2]at hb;simp[Img.blocks,ae]at hb
    ·have hop:=hpins o m hpm
     have hlk:=Qt hpi o hop
     obtain⟨nb,hnb⟩:=H4 hk o _ hlk;have hH:n.H o=some (some nb):=hnb
     rcases hob o nb hH with⟨x1,y1,l1,q1,q2,⟨qf1,qf2⟩,q4,_⟩|⟨q1,_⟩
     ·rw[b8 hH qf1]
      have:x1=o:=by rw[hlk]at l1;cases l1;rfl
      subst this;have h3:=h.pins x1 m hpm
      rw[b8 q1 qf2]at h3;rw[q2];exact⟨h3.1,fun hv=>h3.2 (by have:=q4 hop;omega)⟩
     ·rw[hlk]at q1;cases q1
   ·cases hs
def dG(σ:State)(l:List (Nat×Option Ob)):Prop:=∀o x,(o,x)∈l->∃ob ob',σ.H o=some (some ob)/\x=some ob'/\Cv ob ob'
theorem dG.app{l l':List (Nat×Option Ob)}(h:dG σ l)(k:dG σ l'):dG σ (l++l'):=fun o x hm=>(AI.1 hm).elim (h o x) (k o x)
theorem dG.nil:dG σ []:=fun o x hm=>by simp at hm
theorem pc{o:Nat}:dG σ (lQ σ o):=by
 unfold lQ;split
 ·rename_i ob ho
  split
  ·exact .nil
  ·split
   ·rename_i d hd
    intro o' x hm
    simp at hm
    obtain⟨rfl,rfl⟩:=hm;exact⟨ob,_,ho,rfl,.inl ⟨d,hd,rfl⟩⟩
   ·exact .nil
 ·exact .nil
theorem Qv{o:Nat}:dG σ (wz σ o):=by
 unfold wz;split
 ·rename_i v e ei k l ho
  intro o' x hm
  simp at hm
  obtain⟨rfl,rfl⟩:=hm;exact⟨_,_,ho,rfl,.inr ⟨v,e,ei,k,l,rfl,rfl⟩⟩
 ·exact .nil
theorem Qw{c d:SC}:dG σ (wA σ n c d):=by
 unfold wA;split
 ·exact pc
 ·exact pc
 ·exact pc
 ·split
  ·exact Qv
  ·exact .nil
 ·exact .nil
theorem wI:∀{cs ds:List SC},dG σ (qR σ n cs ds)
 | [],_=>.nil
 |_::_,[]=>.nil
 |_::_,_::_=>dG.app Qw wI
theorem Qx:∀{cs ds:List SC},dG σ (wB σ n cs ds)
 | [],_=>.nil
 |_::_,[]=>.nil
 |c::cs,d::ds=>by
  unfold wB;refine dG.app ?_ Qx
  split
  ·split
   ·exact wI
   ·exact .nil
  ·exact .nil
theorem aa6{v d:SV}:dG σ (H2 σ n v d):=by
 unfold H2;split
 ·split
  ·split
   ·exact wI
   ·exact .nil
  ·exact Qw
 ·exact wI
 ·exact Qx
 ·exact .nil
theorem H6:∀{l:List (Nat×SV)},dG σ (qS σ n l)
 | []=>.nil
 |(t,d)::l=>by
  unfold qS;split
  ·exact dG.app aa6 H6
  ·exact H6
theorem H7:∀{l:List (Nat×Option Ob)},dG σ l->dG σ (jQ l)/\((jQ l).map (·.1)).Nodup
 | [],_=>⟨.nil,by simp[jQ]⟩
 |(o,x)::l,h=>by
  obtain⟨h1,h2⟩:=H7 (l:=l) fun o' x' hm=>h o' x' (AO _ hm)
  unfold jQ;split
  ·rename_i hn
   refine⟨fun o' x' hm=>?_,?_⟩
   ·rcases AG.1 hm with hm|hm
    ·cases hm;exact h o x (AX ..)
    ·exact h1 o' x' hm
   ·rw[Ax]
    exact AZ.2 ⟨jj hn,h2⟩
  ·exact⟨h1,h2⟩
theorem St.cvs(h:St C σ mu a w):∀{fs:List (Nat×Option Ob)},dG σ fs->(fs.map (·.1)).Nodup ->
  ∃wG mu',GrowF C wG/\St (C.fz wG) ⟨σ.fr,fs++σ.hp⟩ mu' a w/\bX (σ.env C.wF mu) ((State.mk σ.fr (fs++σ.hp)).env wG mu')
 | [],_,_=>⟨C.wF,mu,.refl C,h,bX.refl _⟩
 |(o,x)::fs,hc,hn=>by
  rw[Ax]at hn;obtain⟨n1,n2⟩:=AZ.1 hn;obtain⟨wG,mu1,g1,s1,e1⟩:=St.cvs h (fs:=fs) (fun o' x' hm=>hc o' x' (AO _ hm)) n2
  obtain⟨ob,ob',q1,rfl,q2⟩:=hc o x (AX ..);have hno:∀x,(o,x) ∉ fs:=fun x hm=>n1 (AH.2 ⟨_,hm,rfl⟩)
  obtain⟨wH,mu2,g2,s2,_,e2⟩:=s1.cv1 (by rw[gn hno];exact q1) q2
  exact⟨wH,mu2,g1.trans g2,s2,e1.trans e2⟩
theorem ax.cvs(h:ax C σ a w){fs:List (Nat×Option Ob)}(hc:dG σ fs):ax C ⟨σ.fr,jQ fs++σ.hp⟩ a w:=by
 obtain⟨wG,mu,hg,h⟩:=h;obtain⟨h1,h2⟩:=H7 hc;obtain⟨wH,mu1,g1,s1,_⟩:=h.cvs h1 h2;exact⟨wH,mu1,hg.trans g1,s1⟩
theorem Qy(h:ax C σ a w):ax C (Qo σ n) a w:=h.cvs H6
end
end Go.Sx
end
section
namespace Go.Sx
open Go.RowKit
def wJ(ks:List Nat):SC->Bool
 |.int _ _=>true
 |.bool _=>true
 |.str _=>true
 |.nil=>true
 |.any=>true
 |.ro _=>true
 |.own o=>!(cA o ks)
 |.ptr o _=>!(cA o ks)
 |_=>false
def wK(ks:List Nat):Ob->Bool
 |.box cs=>cs.all (wJ ks)
 |ob=>qo ob
def iL(bx:List Nat)(hp:List (Nat×Option Ob)):Bool :=
 hp.all (fun p=>!(Nat.beq p.1 900)&&match p.2 with
  |some ob=>wK (hp.map (·.1)) ob
  |none=>false)&&bx.all fun o=>match lk hp o with
  |some (some (.box (_::_)))=>true
  |_=>false
def nn(bx:List Nat):List (Nat×SV)->Bool
 | []=>true
 |(_,sv)::l=>(match sv with
  |.c c=>match c with
   |.int _ _=>true
   |.bool _=>true
   |.str _=>true
   |.ro _=>true
   |.rob _ _=>true
   |.ptr o i=>Nat.beq i 0&&!(cA o bx)
   |_=>false
  |_=>false)&&nn bx l
def roB(σ:State):SC->Option FC
 |.int k n=>some (.int k n)
 |.bool b=>some (.bool b)
 |.str l=>some (.str l)
 |.ro d=>some d
 |.own o=>match σ.H o with
  |some (some ob)=>gb ob
  |_=>none
 |_=>none
def Qz(σ:State):List SC->Option (List (Nat×List FC))
 | []=>some []
 |c::l=>match c with
  |.ptr o i=>match i with
   |0=>match σ.H o with
    |some (some (.box cs))=>match ec (roB σ) cs,Qz σ l with
     |some ds,some r=>some ((o,ds)::r)
     |_,_=>none
    |_=>none
   |_+1=>none
  |_=>none
def lR(cps:List (Nat×List FC)):List (Nat×Option Ob):=cps.map fun p=>(p.1,some (.box (p.2.map di)))
def jo(cps:List (Nat×List FC)):List MA:=cps.map fun p=>.box (p.2.map .c)
def nq(cps:List (Nat×List FC)):List SC:=cps.map fun p=>.ptr p.1 0
def H8(N t pt:Nat)(bx pins:List Nat)(fr:List (Nat×SV))(hp:List (Nat×Option Ob))(cps:List (Nat×List FC)):Bool :=
 Nat.blt pt N&&nn bx fr&&fm (cps.map (·.1))&&(cps.all fun p=>cA p.1 (hp.map (·.1)))&&cA t (fr.map (·.1))&&pins.all fun p=>!(cA p (hp.map (·.1)))
def pe(ct:List AD->Option Post)(cps:List (Nat×List FC))(Y:YJ)(R:D2->Bool->Prop):Prop :=
 match ct (.ma (.m (.ob (.yd 0 Y [] true)))::(jo cps).map .ma)with
 |some ⟨q,.st (.tup []) [] outs,[]⟩=>match outs with
  |.m (.ob (.yd _ Y' xs b))::_=>q/\Y'=Y/\R xs b
  |_=>False
 |_=>False
section
variable {C:Cx}
structure StB (P:Program) (pin:Nat->Option Img) (n:State) (mu:Nat->Img) (tmps:Array Value) (wG W:World) (B:Nat->Prop):Prop where
 apart:∀p u,wG.cell? p=some u->∀o ob,n.H o=some (some ob)->p.block ∉ (mu o).blocks
 fr:∀t sv,n.F t=some sv->av P (n.env wG mu) sv (tmps.getD t undef)
 ob:∀o ob,n.H o=some (some ob)->aO (n.env wG mu) W (mu o) ob
 nd:∀o ob,n.H o=some (some ob)->(mu o).blocks.Nodup/\∀b∈(mu o).blocks,B b
 sep:∀o o' ob ob',o≠o'->n.H o=some (some ob)->n.H o'=some (some ob')->∀b∈(mu o).blocks,b ∉ (mu o').blocks
 pins:∀o m,pin o=some m->match n.ost o with|.absent=>False|.dead=>True|.frz _=>True|.live s=>(mu o).hd=m.hd/\(s.ver=0->mu o=m)
theorem StB.st{P:Program}{pin:Nat->Option Img}{n:State}{mu:Nat->Img}{tmps:Array Value}{wG W:World}{B:Nat->Prop}(h:StB P pin n mu tmps wG W B){N:Nat}(hsz:tmps.size=N)
  (hc:∀p u,wG.cell? p=some u->W.cell? p=some u):St ⟨P,N,W,wG,B,pin⟩ n mu ⟨tmps,[]⟩ W :=
 ⟨.refl _,rfl,rfl,AE _,fun _ _ _=>rfl,fun p u hp=>⟨fun o ob ho=>h.apart p u hp o ob ho,hc p u hp⟩,hsz,.nil,h.fr,h.ob,fun o ob ho=>⟨(h.nd o ob ho).1,fun b hb=>.inl ((h.nd o ob ho).2 b hb)⟩,h.sep,h.pins⟩
theorem StB.of{σ:State}{mu:Nat->Img}{a:Act}{w:World}(h:St C σ mu a w):StB C.P C.pin σ mu a.tmps C.wF w (fun b=>(C.M b\/C.w0.heap.size<=b)/\b<w.heap.size) :=
 ⟨fun p u hp=>(h.cells p u hp).1,h.fr,h.ob,fun o ob ho=>⟨(h.nd o ob ho).1,fun b hb=>⟨(h.nd o ob ho).2 b hb,(h.ob o ob ho).block b hb⟩⟩,h.sep,h.pins⟩
theorem StB.world{P:Program}{pin:Nat->Option Img}{n:State}{mu:Nat->Img}{tmps:Array Value}{wG W W':World}{B:Nat->Prop}(h:StB P pin n mu tmps wG W B)
  (hk:∀b,B b->W'.heap[b]?=W.heap[b]?):StB P pin n mu tmps wG W' B :=
 ⟨h.apart,h.fr,fun o ob ho=>(h.ob o ob ho).keep (bX.refl _) fun b hb=>hk b ((h.nd o ob ho).2 b hb),h.nd,h.sep,h.pins⟩
theorem StB.blocks{P:Program}{pin:Nat->Option Img}{n:State}{mu:Nat->Img}{tmps:Array Value}{wG W:World}{B B':Nat->Prop}(h:StB P pin n mu tmps wG W B)
  (hk:∀o ob,n.H o=some (some ob)->∀b∈(mu o).blocks,B b->B' b):StB P pin n mu tmps wG W B' :=
 ⟨h.apart,h.fr,h.ob,fun o ob ho=>⟨(h.nd o ob ho).1,fun b hb=>hk o ob ho b hb ((h.nd o ob ho).2 b hb)⟩,h.sep,h.pins⟩
theorem lS{o:Nat}:∀{l:List Nat},cA o l=false->o∈l
 | [],h=>by simp[cA]at h
 |x::l,h=>by
  simp only[cA]at h;split at h
  ·rename_i hx
   have:=AY hx
   subst this;exact AX
  ·exact AO _ (lS h)
theorem wL{bx:List Nat}{hp:List (Nat×Option Ob)}(h:iL bx hp=true):(∀o x,lk hp o=some x->o≠900/\∃ob,x=some ob/\wK (hp.map (·.1)) ob=true)/\∀o∈bx,∃c cs,lk hp o=some (some (.box (c::cs))):=by
 unfold iL at h;rw[AL]at h;refine⟨fun o x hx=>?_,fun o ho=>?_⟩
 ·have h1:=AW.1 h.1 _ (nm hx)
  rw[AL]at h1;refine⟨fun e=>?_,?_⟩
  ·subst e;simp at h1
  ·cases x with
   |none=>simp at h1
   |some ob=>exact⟨ob,rfl,h1.2⟩
 ·have h1:=AW.1 h.2 o ho
  split at h1
  ·rename_i c cs hl;exact⟨c,cs,hl⟩
  ·cases h1
theorem QA{ks:List Nat}{E E':Env}(hw:E'.wF=E.wF)(hs:∀o∈ks,E'.st o=E.st o/\E'.mu o=E.mu o){w:World}{m:Img}{ob:Ob}(hok:wK ks ob=true)(h:aO E w m ob):aO E' w m ob:=by
 cases ob with
 |box cs =>
  obtain⟨b,arr,t,h1,h2,h3,h4,h5⟩:=h;refine⟨b,arr,t,h1,h2,h3,h4,fun i c hc=>?_⟩
  obtain⟨u,z1,z2,z3⟩:=h5 i c hc;refine⟨u,z1,z2,?_⟩
  have h9:wJ ks c=true:=AW.1 hok c (AK hc)
  cases c with
  |own o =>
   have hne:o∈ks:=lS (by simpa[wJ]using h9)
   obtain⟨q1,q2⟩:=hs o hne;refine⟨z3.1,?_⟩
   rw[q1,q2,hw];exact z3.2
  |ptr o i =>
   have hne:o∈ks:=lS (by simpa[wJ]using h9)
   obtain⟨q1,q2⟩:=hs o hne;refine⟨z3.1,?_⟩
   rw[q1,q2];exact z3.2
  |ro d=>exact⟨z3.1,by rw[hw];exact z3.2⟩
  |int k n=>exact z3
  |bool b=>exact z3
  |str l=>exact z3
  |nil=>exact z3
  |any=>trivial
  |_=>cases h9
 |lst v e d =>
  obtain⟨q1,vs,q2,q3⟩:=h;exact⟨q1,vs,q2,fun i u hi=>let⟨r1,fc,r2,r3⟩:=q3 i u hi;⟨r1,fc,r2,by rw[hw];exact r3⟩⟩
 |yd v Y pre g=>exact⟨h.1,by rw[hw];exact h.2.1,h.2.2⟩
 |ints e k l=>exact h
 |bools e l=>exact h
 |rows v e ei k l=>exact h
 |tr v es d=>exact h
 |_=>cases hok
theorem H9{bx:List Nat}:∀{fr:List (Nat×SV)},nn bx fr=true->∀t sv,lk fr t=some sv ->
  (∀(P:Program) (E E':Env) (v:Value),bL E.wF E'.wF->av P E sv v->av P E' sv v)\/∃o,sv=.c (.ptr o 0)/\o∈bx
 | [],_,t,sv,h=>by cases h
 |(t',sv')::fr,hok,t,sv,h=>by
  simp only[nn,AL]at hok;rw[bm]at h;split at h
  ·cases h
   obtain⟨h1,_⟩:=hok;split at h1
   ·rename_i c
    split at h1
    all_goals first|(exact .inl fun P E E' v _ hv=>hv)|skip
    ·exact .inl fun P E E' v hk hv=>⟨hv.1,hv.2.mono hk⟩
    ·refine .inl fun P E E' v hk hv=>?_
     obtain⟨b,off,q1,q2⟩:=hv;exact⟨b,off,q1,fun j fc hj=>let⟨u,z1,z2⟩:=q2 j fc hj;⟨u,hk _ _ z1,z2.mono hk⟩⟩
    ·rename_i o i
     rw[AL]at h1;have h2:=AY h1.1
     subst h2;refine .inr ⟨o,rfl,lS ?_⟩
     simpa using h1.2
    ·cases h1
   ·cases h1
  ·exact H9 hok.2 t sv h
theorem StB.item{P:Program}{pin:Nat->Option Img}{bx:List Nat}{fr:List (Nat×SV)}{hp:List (Nat×Option Ob)}{mu:Nat->Img}{tmps:Array Value}{wG W:World}{B:Nat->Prop}(h:StB P pin ⟨fr,hp⟩ mu tmps wG W B)(hok:iL bx hp=true)
  {pt:Nat}(hpt:pt<tmps.size){e:TypeId}{x:D1}{v:Value}(hv1:v.oneCell'=true)(hrow:W.ownsRow 0 e 1 v x.length (x.map (.int .i64)))(hB:∀b,B b->ae v≠some b)(hw:∀p u,wG.cell? p=some u->ae v≠some p.block) :
  StB P (fun o=>if o=900 then some ⟨v,[]⟩else if cA o bx=false then some (mu o)else pin o) ⟨(pt,.c (.own 900))::fr,(900,some (.ints e .i64 x))::hp⟩ (fun o=>if o=900 then⟨v,[]⟩else mu o) (tmps.setIfInBounds pt v) wG W (fun b=>B b\/ae v=some b):=by
 obtain⟨hk1,hk2⟩:=wL hok;have hn9:lk hp 900=none:=by
  cases hq:lk hp 900 with
  |none=>rfl
  |some x=>exact absurd rfl (hk1 900 x hq).1
 have hH:∀o,(⟨(pt,.c (.own 900))::fr,(900,some (.ints e .i64 x))::hp⟩:State).H o=if 900=o then some (some (.ints e .i64 x))else lk hp o:=fun o=>by
  show lk ((900,_)::hp) o=_
  rw[bm]
 have hbk:∀b,b∈(⟨v,[]⟩:Img).blocks↔ae v=some b:=fun b=>by simp[Img.blocks]
 have hle:bX ((⟨fr,hp⟩:State).env wG mu) ((⟨(pt,.c (.own 900))::fr,(900,some (.ints e .i64 x))::hp⟩:State).env wG fun o=>if o=900 then⟨v,[]⟩else mu o):=⟨fun _ _ h=>h,fun o=>by
  by_cases ho:o=900
  ·subst ho
   refine .inl ?_
   show dJ (State.ost ⟨fr,hp⟩ 900) _ _ _
   rw[show State.ost ⟨fr,hp⟩ 900=.absent by simp only[State.ost,State.H,hn9]]
   trivial
  ·show dR _ (State.ost ⟨fr,hp⟩ o) (State.ost ⟨(pt,.c (.own 900))::fr,(900,some (.ints e .i64 x))::hp⟩ o) (mu o) (if o=900 then⟨v,[]⟩else mu o)
   rw[AB ho,show State.ost ⟨(pt,.c (.own 900))::fr,(900,some (.ints e .i64 x))::hp⟩ o=State.ost ⟨fr,hp⟩ o by
    simp only[State.ost,hH,AB (fun e:900=o=>ho e.symm)];rfl]
   exact dR.refl _ _ _⟩
 have hcase:∀o ob,(⟨(pt,.c (.own 900))::fr,(900,some (.ints e .i64 x))::hp⟩:State).H o=some (some ob)->(o=900/\ob=.ints e .i64 x)\/(o≠900/\(⟨fr,hp⟩:State).H o=some (some ob)):=fun o ob ho=>by
  rw[hH]at ho;split at ho
  ·rename_i he;cases ho;exact .inl ⟨he.symm,rfl⟩
  ·rename_i he;exact .inr ⟨fun e=>he e.symm,ho⟩
 refine⟨fun p u hp' o ob ho hb=>?_,fun t sv ht=>?_,fun o ob ho=>?_,fun o ob ho=>?_,fun o o' ob ob' hne ho ho' b hb hb'=>?_,fun o m hm=>?_⟩
 ·rcases hcase o ob ho with⟨rfl,_⟩|⟨hne,ho⟩
  ·rw[AA rfl]at hb;exact hw p u hp' ((hbk _).1 hb)
  ·rw[AB hne]at hb;exact h.apart p u hp' o ob ho hb
 ·have ht2:lk ((pt,SV.c (.own 900))::fr) t=some sv:=ht
  clear ht;rw[bm]at ht2;split at ht2
  ·rename_i he
   subst he;cases ht2;have:(tmps.setIfInBounds pt v).getD pt undef=v:=by
    rw[BO];simp[hpt]
   rw[this];refine⟨hv1,?_⟩
   rw[show((⟨(pt,.c (.own 900))::fr,(900,some (.ints e .i64 x))::hp⟩:State).env wG fun o=>if o=900 then⟨v,[]⟩else mu o).st 900=.live (Ob.ints e .i64 x).shp from b8 (σ:=⟨(pt,.c (.own 900))::fr,(900,some (.ints e .i64 x))::hp⟩) (o:=900) (ob:=.ints e .i64 x) (by rw[hH,AA rfl])]
   show v=(if 900=900 then⟨v,[]⟩else mu 900:Img).hd
   rw[AA rfl]
  ·rename_i hne
   have:(tmps.setIfInBounds pt v).getD t undef=tmps.getD t undef:=by
    rw[BO,BO,CD hne]
   rw[this];exact(h.fr t sv ht2).mono hle
 ·rcases hcase o ob ho with⟨rfl,rfl⟩|⟨hne,ho⟩
  ·rw[AA rfl];exact⟨rfl,hrow⟩
  ·rw[AB hne];exact(h.ob o ob ho).keep hle fun _ _=>rfl
 ·rcases hcase o ob ho with⟨rfl,rfl⟩|⟨hne,ho⟩
  ·rw[AA rfl]
   refine⟨?_,fun b hb=>.inr ((hbk b).1 hb)⟩
   simp only[Img.blocks,A6,Ac];cases ae v<;>simp
  ·rw[AB hne];exact⟨(h.nd o ob ho).1,fun b hb=>.inl ((h.nd o ob ho).2 b hb)⟩
 ·rcases hcase o ob ho with⟨rfl,rfl⟩|⟨h1,ho⟩
  ·rcases hcase o' ob' ho' with⟨rfl,rfl⟩|⟨h2,ho'⟩
   ·exact hne rfl
   ·rw[AA rfl]at hb;rw[AB h2]at hb'
    exact hB b ((h.nd o' ob' ho').2 b hb') ((hbk b).1 hb)
  ·rcases hcase o' ob' ho' with⟨rfl,rfl⟩|⟨h2,ho'⟩
   ·rw[AA rfl]at hb';rw[AB h1]at hb
    exact hB b ((h.nd o ob ho).2 b hb) ((hbk b).1 hb')
   ·rw[AB h1]at hb;rw[AB h2]at hb'
    exact h.sep o o' ob ob' hne ho ho' b hb hb'
 ·by_cases h9:o=900
  ·subst h9
   rw[AA rfl]at hm;cases hm;rw[b8 (ob:=.ints e .i64 x) (by rw[hH,AA rfl])]
   rw[AA rfl];exact⟨rfl,fun _=>rfl⟩
  ·rw[AB h9]at hm
   have hoe:State.ost ⟨(pt,.c (.own 900))::fr,(900,some (.ints e .i64 x))::hp⟩ o=State.ost ⟨fr,hp⟩ o:=by
    simp only[State.ost,hH,AB (fun e:900=o=>h9 e.symm)];rfl
   rw[hoe,AB h9];split at hm
   ·rename_i hbx
    cases hm;obtain⟨c,cs,hl⟩:=hk2 o (lS hbx);rw[b8 (σ:=⟨fr,hp⟩) (ob:=.box (c::cs)) hl];exact⟨rfl,fun _=>rfl⟩
   ·exact h.pins o m hm
theorem StB.done{P:Program}{pin:Nat->Option Img}{bx:List Nat}{fr:List (Nat×SV)}{hp hp':List (Nat×Option Ob)}{mu:Nat->Img}{tmps:Array Value}{wG W:World}{B:Nat->Prop}(h:StB P pin ⟨fr,hp⟩ mu tmps wG W B)(hok:iL bx hp=true)(hok':iL bx hp'=true)(hfr:nn bx fr=true)
  {C2:Cx}{mu':Nat->Img}{a:Act}{w:World}{e:TypeId}{x:D1}{v:Value}(hst:St C2 ⟨[],(900,some (.ints e .i64 x))::hp'⟩ mu' a w)(hkG:bL wG C2.wF)
  (hpin:C2.pin=fun o=>if o=900 then some ⟨v,[]⟩else if cA o bx=false then some (mu o)else pin o) :
  mu' 900=⟨v,[]⟩/\StB P pin ⟨fr,hp'⟩ mu' tmps C2.wF w (fun b=>(C2.M b\/C2.w0.heap.size<=b)/\ae v≠some b/\b<w.heap.size):=by
 obtain⟨hk1,hk2⟩:=wL hok;obtain⟨hk1',hk2'⟩:=wL hok';have hH:∀o,(⟨[],(900,some (.ints e .i64 x))::hp'⟩:State).H o=if 900=o then some (some (.ints e .i64 x))else lk hp' o:=fun o=>by
  show lk ((900,_)::hp') o=_
  rw[bm]
 have hH9:(⟨[],(900,some (.ints e .i64 x))::hp'⟩:State).H 900=some (some (.ints e .i64 x)):=by rw[hH,AA rfl]
 have hHx:∀o,o≠900->(⟨[],(900,some (.ints e .i64 x))::hp'⟩:State).H o=(⟨fr,hp'⟩:State).H o:=fun o ho=>by
  rw[hH,AB (fun e=>ho e.symm)];rfl
 have hmu9:mu' 900=⟨v,[]⟩:=by
  have:=hst.pins 900 ⟨v,[]⟩ (by rw[hpin];exact AA rfl)
  rw[b8 hH9]at this;exact this.2 rfl
 have hin:∀o ob,(⟨fr,hp'⟩:State).H o=some (some ob)->o≠900/\wK (hp'.map (·.1)) ob=true:=fun o ob ho=>by
  obtain⟨h1,ob',h2,h3⟩:=hk1' o _ ho;cases h2;exact⟨h1,h3⟩
 have hoff:∀o,o≠900->((⟨fr,hp'⟩:State).env C2.wF mu').st o=((⟨[],(900,some (.ints e .i64 x))::hp'⟩:State).env C2.wF mu').st o/\((⟨fr,hp'⟩:State).env C2.wF mu').mu o=((⟨[],(900,some (.ints e .i64 x))::hp'⟩:State).env C2.wF mu').mu o:=fun o ho=>by
  refine⟨?_,rfl⟩
  show State.ost _ o=State.ost _ o
  simp only[State.ost,hHx o ho]
 have hbxl:∀o∈bx,(mu' o).hd=(mu o).hd/\mu' o=mu o/\∃c cs,lk hp' o=some (some (.box (c::cs))):=fun o ho=>by
  obtain⟨c,cs,hl⟩:=hk2' o ho;have hne:=(hk1' o _ hl).1
  have hbf:cA o bx=false:=by
   cases hq:cA o bx with
   |false=>rfl
   |true=>exact absurd ho (jj hq)
  have:=hst.pins o (mu o) (by rw[hpin];show(if o=900 then _ else _)=_;rw[AB hne,AA hbf])
  rw[b8 (ob:=.box (c::cs)) (by rw[hHx o hne];exact hl)]at this
  exact⟨this.1,this.2 rfl,c,cs,hl⟩
 refine⟨hmu9,fun p u hp o ob ho hb=>?_,fun t sv ht=>?_,fun o ob ho=>?_,fun o ob ho=>?_,fun o o' ob ob' hne ho ho'=>?_,fun o m hm=>?_⟩
 ·obtain⟨h1,h2⟩:=hin o ob ho
  exact(hst.cells p u hp).1 o ob (by rw[hHx o h1];exact ho) hb
 ·rcases H9 hfr t sv ht with h1|⟨o,rfl,ho⟩
  ·exact h1 P _ _ _ hkG (h.fr t sv ht)
  ·have h2:=h.fr t _ ht
   obtain⟨q1,q2,c,cs,q3⟩:=hbxl o ho;obtain⟨c0,cs0,q4⟩:=hk2 o ho;refine⟨h2.1,?_⟩
   have h3:=h2.2
   rw[show((⟨fr,hp⟩:State).env wG mu).st o=.live (Ob.box (c0::cs0)).shp from b8 q4]at h3
   rw[show((⟨fr,hp'⟩:State).env C2.wF mu').st o=.live (Ob.box (c::cs)).shp from b8 q3]
   refine⟨by show 0<(c::cs).length;simp,?_⟩
   obtain⟨_,b,z1,z2⟩:=h3;exact⟨b,by show ae (mu' o).hd=some b;rw[q1];exact z1,z2⟩
 ·obtain⟨h1,h2⟩:=hin o ob ho
  exact QA (E:=(⟨[],(900,some (.ints e .i64 x))::hp'⟩:State).env C2.wF mu') (E':=(⟨fr,hp'⟩:State).env C2.wF mu') rfl (fun o2 ho2=>hoff o2 fun e9=>by
   subst e9;obtain⟨x9,hx9⟩:=lO ho2;exact(hk1' _ x9 hx9).1 rfl) h2 (hst.ob o ob (by rw[hHx o h1];exact ho))
 ·obtain⟨h1,h2⟩:=hin o ob ho
  have ho2:(⟨[],(900,some (.ints e .i64 x))::hp'⟩:State).H o=some (some ob):=by rw[hHx o h1];exact ho
  obtain⟨q1,q2⟩:=hst.nd o ob ho2;refine⟨q1,fun b hb=>⟨q2 b hb,fun hc=>?_,(hst.ob o ob ho2).block b hb⟩⟩
  exact hst.sep o 900 ob _ h1 ho2 hH9 b hb (by rw[hmu9];simp[Img.blocks,hc])
 ·obtain⟨h1,_⟩:=hin o ob ho
  obtain⟨h2,_⟩:=hin o' ob' ho';exact hst.sep o o' ob ob' hne (by rw[hHx o h1];exact ho) (by rw[hHx o' h2];exact ho')
 ·have h0:=h.pins o m hm
  have hne:o≠900:=fun e=>by
   subst e;have:lk hp 900=none:=by
    cases hq:lk hp 900 with
    |none=>rfl
    |some x=>exact absurd rfl (hk1 900 x hq).1
   rw[show State.ost ⟨fr,hp⟩ 900=.absent by simp only[State.ost,State.H,this]]at h0
   exact h0
  cases hbf:cA o bx with
  |false =>
   have ho:=lS hbf
   obtain⟨q1,q2,c,cs,q3⟩:=hbxl o ho;obtain⟨c0,cs0,q4⟩:=hk2 o ho;rw[b8 (σ:=⟨fr,hp⟩) (ob:=.box (c0::cs0)) q4]at h0;rw[b8 (σ:=⟨fr,hp'⟩) (ob:=.box (c::cs)) q3];have h2:=h0.2 rfl
   exact⟨by rw[q2,h2],fun _=>by rw[q2,h2]⟩
  |true =>
   have:=hst.pins o m (by rw[hpin];show(if o=900 then _ else _)=_;rw[AB hne,AB (by rw[hbf];simp)];exact hm)
   rw[show State.ost ⟨[],(900,some (.ints e .i64 x))::hp'⟩ o=State.ost ⟨fr,hp'⟩ o by simp only[State.ost,hHx o hne]]at this
   exact this
theorem Ia{w:World}{l:Nat}{r:Loop}{o':Obj}(hl:w.heap[l]?=some (.loop r)){p:Addr}{u:Value}(hp:w.cell? p=some u):p.block≠l/\(w.putObj l o').cell? p=some u:=by
 have hne:p.block≠l:=fun e=>by
  simp only[World.cell?,e,hl]at hp;cases hp
 exact⟨hne,by rw[World.cell?_of_block (World.putObj_heap_other hne)];exact hp⟩
theorem St.putL{σ:State}{mu:Nat->Img}{a:Act}{w:World}(h:St C σ mu a w){l:Nat}{r:Loop}(hl:w.heap[l]?=some (.loop r))(hb:∀o ob,σ.H o=some (some ob)->l ∉ (mu o).blocks)(o:Obj)(h0:l<C.w0.heap.size) :
  St ⟨C.P,C.N,C.w0.putObj l o,C.wF,C.M,C.pin⟩ σ mu a (w.putObj l o):=by
 have hoth:∀{w:World} k,k≠l->(w.putObj l o).heap[k]?=w.heap[k]?:=fun k hk=>World.putObj_heap_other hk
 have ψ:=(BC.1 hl).1
 refine⟨⟨h.os.os,h.os.drawn⟩,h.tape,h.output,?_,fun k hk hm=>?_,fun p u hp=>?_,h.sz,?_,h.fr,fun o2 ob ho=>?_,fun o2 ob ho=>⟨(h.nd o2 ob ho).1,fun b hb2=>?_⟩,h.sep,h.pins⟩
 ·rw[World.putObj_size,World.putObj_size];exact h.size
 ·have hk:k<C.w0.heap.size:=by rw[World.putObj_size]at hk;exact hk
  show(w.putObj l o).heap[k]?=(C.w0.putObj l o).heap[k]?
  by_cases e:k=l
  ·subst e
   rw[World.putObj_heap_same ψ,World.putObj_heap_same h0]
  ·rw[hoth k e,hoth k e];exact h.block k hk hm
 ·obtain⟨q1,q2⟩:=h.cells p u hp
  exact⟨q1,(Ia hl q2).2⟩
 ·obtain⟨rs,q1,q2,q3⟩:=h.df
  refine⟨rs,q1,q2,fun r' hr=>?_⟩
  obtain⟨z1,z2,z3⟩:=q3 r' hr;refine⟨by rw[World.putObj_size];exact z1,?_,z3⟩
  rw[hoth r' (fun e=>by rw[e,hl]at z2;cases z2)];exact z2
 ·exact(h.ob o2 ob ho).keep (bX.refl _) fun b hb2=>hoth b fun e=>hb o2 ob ho (e ▸ hb2)
 ·rw[World.putObj_size];exact(h.nd o2 ob ho).2 b hb2
def QB(C2:Cx)(e:TypeId)(go:D2->D1->Bool)(hp hpx:D2->List (Nat×Option Ob))(pre:D2)(x:D1):Exit->Act->World->Prop:=fun e1 a w=>match e1 with
 |.normal=>go pre x=true/\ax C2 ⟨[],(900,some (.ints e .i64 x))::hp (pre++[x])⟩ a w
 |.ret=>go pre x=false/\ax C2 ⟨[],(900,some (.ints e .i64 x))::hpx (pre++[x])⟩ a w
 |_=>False
def Ib(hp hpx:D2->List (Nat×Option Ob))(pre:D2):Bool->List (Nat×Option Ob)
 |true=>hp pre
 |false=>hpx pre
def du(fn:FuncId)(tmps:Array Value)(ps:Array Tmp)(assign body:Code)(D:Nat):Bool->Loop
 |true=>{ state:=.ready,pending:=none,fn,tmps,params:=ps,assign,body,defers:=D }
 |false=>{ state:=.done,pending:=some .ret,fn,tmps,params:=ps,assign,body,defers:=D }
def lT(P:Program)(pin:Nat->Option Img)(wF:World)(fr:List (Nat×SV))(hp hpx:D2->List (Nat×Option Ob))(tmps:Array Value)(rec:Bool->Loop)(l D:Nat)(pre:D2)(b:Bool)(W:World)(S:List Nat):Prop :=
 l∈S/\D∈S/\W.heap[l]?=some (.loop (rec b))/\W.heap[D]?=some (.deferred (some []))/\∃wG mu,bL wF wG/\(∀q u,wG.cell? q=some u->wF.cell? q=some u\/(q.block∈S/\W.cell? q=some u))/\StB P pin ⟨fr,Ib hp hpx pre b⟩ mu tmps wG W (fun k=>k∈S/\k≠l/\k≠D)
theorem aa7{P:Program}{pin:Nat->Option Img}{wF:World}{fr:List (Nat×SV)}{hp hpx:D2->List (Nat×Option Ob)}{tmps:Array Value}{rec:Bool->Loop}{l D:Nat}{pre:D2}{b:Bool}{W W':World}{S:List Nat}
  (h:lT P pin wF fr hp hpx tmps rec l D pre b W S)(hk:∀k∈S,W'.heap[k]?=W.heap[k]?):lT P pin wF fr hp hpx tmps rec l D pre b W' S:=by
 obtain⟨h1,h2,h3,h4,wG,mu,h5,h6,h7⟩:=h;refine⟨h1,h2,by rw[hk l h1];exact h3,by rw[hk D h2];exact h4,wG,mu,h5,fun q u hq=>(h6 q u hq).imp id fun⟨z1,z2⟩=>⟨z1,?_⟩,h7.world fun k hk2=>hk k hk2.1⟩
 rw[World.cell?_of_block (hk q.block z1)];exact z2
theorem aa8{pinl:List Nat}(hpins:∀o m,C.pin o=some m->o∈pinl){pt:Nat}{assign body:Code}
  {e:TypeId}{go:D2->D1->Bool}{ok:D2->D1->Prop}{bx:List Nat}{fr:List (Nat×SV)}{hp hpx:D2->List (Nat×Option Ob)}(hfr:nn bx fr=true)(hhp:∀pre,iL bx (hp pre)=true/\iL bx (hpx pre)=true)
  {tmps:Array Value}(hsz:tmps.size=C.N)(hpt:pt<C.N){fnn:FuncId}{D:Nat}
  (hbody:∀pre x,ok pre x->∀(l:Nat) (C1:Cx),C1.P=C.P->C1.N=C.N->(∀o m,C1.pin o=some m->o∈900::(bx++pinl))->∀a w,ax C1 ⟨(pt,.c (.own 900))::fr,(900,some (.ints e .i64 x))::hp pre⟩ a w ->
   assign.wpIn (eh (some l)) 0 C.P (Exit.then (fun a1 ed=>∃σ1,ax C1 σ1 a1 ed/\∀(C2:Cx),C2.P=C.P->C2.N=C.N->(∀o m,C2.pin o=some m->o∈900::(bx++pinl))->∀a w,ax C2 σ1 a w->body.wpIn (eh (some l)) 0 C.P (QB C2 e go hp hpx pre x) a w) (fun _ _ _=>False)) a w)
  {l:Nat}(hlD:l≠D){pre:D2}{x:D1}{W:World}{S:List Nat}{v:Value}(hJ:lT C.P C.pin C.wF fr hp hpx tmps (du fnn tmps #[pt] assign body D) l D pre true W S)(hok:ok pre x)(hSn:S.Nodup)(hSl:∀k∈S,k<W.heap.size)(hv1:v.oneCell'=true)
  (hrow:W.ownsRow 0 e 1 v x.length (x.map (.int .i64)))(hvS:∀k∈S,ae v≠some k)(hwF:∀p u,C.wF.cell? p=some u->W.cell? p=some u/\ae v≠some p.block) :
  YieldAt Fence.wide 0 C.P l #[v] W fun r w'=>∃S',r=.returned (.bool (go pre x))/\lT C.P C.pin C.wF fr hp hpx tmps (du fnn tmps #[pt] assign body D) l D (pre++[x]) (go pre x) w' S'/\S'.Nodup/\(∀k∈S,k∈S')/\(∀k∈S',(k∈S\/W.heap.size<=k)/\k<w'.heap.size) /\
   w'.ownsRow 0 e 1 v x.length (x.map (.int .i64))/\OsD W w'/\w'.tape=W.tape/\w'.output=W.output/\W.heap.size<=w'.heap.size/\∀k,k<W.heap.size->k ∉ S->ae v≠some k->w'.heap[k]?=W.heap[k]?:=by
 obtain⟨hlS,hDS,hrl,hrD,wG,mu,hk1,hk2,hB⟩:=hJ;have hwG:∀p u,wG.cell? p=some u->W.cell? p=some u/\ae v≠some p.block:=fun p u hp'=>by
  rcases hk2 p u hp' with q|⟨q1,q2⟩
  ·exact hwF p u q
  ·exact⟨q2,hvS _ q1⟩
 have hB:StB C.P C.pin ⟨fr,hp pre⟩ mu tmps wG W (fun k=>k∈S/\k≠l/\k≠D):=hB
 have hI:=hB.item (hhp pre).1 (pt:=pt) (by rw[hsz];exact hpt) (e:=e) (x:=x) hv1 hrow (fun b hb=>hvS b hb.1) (fun p u hp'=>(hwG p u hp').2)
 obtain⟨pin1,hpin1⟩:∃pin1:Nat->Option Img,pin1=fun o=>if o=900 then some ⟨v,[]⟩else if cA o bx=false then some (mu o)else C.pin o:=⟨_,rfl⟩
 rw[<-hpin1]at hI;obtain⟨B1,hB1⟩:∃B1:Nat->Prop,B1=fun b=>(b∈S/\b≠l/\b≠D)\/ae v=some b:=⟨_,rfl⟩
 rw[<-hB1]at hI;have hI2:=hI.st (N:=C.N) (by simp[hsz]) fun p u hp'=>(hwG p u hp').1
 have hpl:∀o m,pin1 o=some m->o∈900::(bx++pinl):=fun o m hm=>by
  rw[hpin1]at hm;simp only at hm;split at hm
  ·rename_i h9;subst h9;exact AX
  ·split at hm
   ·rename_i hbx;exact AO _ (BM _ (lS hbx))
   ·exact AO _ (BK _ (hpins o m hm))
 have hlB:¬ B1 l:=fun h=>by
  rw[hB1]at h;rcases h with h|h
  ·exact h.2.1 rfl
  ·exact hvS l hlS h
 have hDB:¬ B1 D:=fun h=>by
  rw[hB1]at h;rcases h with h|h
  ·exact h.2.2 rfl
  ·exact hvS D hDS h
 have hlW:=hSl l hlS
 have hDW:=hSl D hDS
 have hy:=run_yield (P:=C.P) (args:=#[v]) hrl (by rfl)
 refine⟨fnn,_,assign,body,hy,?_⟩
 have hz:((du fnn tmps #[pt] assign body D true).params.zip #[v]).foldl (fun tmps (t,a)=>tmps.setIfInBounds t a) (du fnn tmps #[pt] assign body D true).tmps=tmps.setIfInBounds pt v:=by
  show((#[pt]:Array Tmp).zip #[v]).foldl (fun tmps (t,a)=>tmps.setIfInBounds t a) tmps=_
  simp
 rw[hz];refine roundIn_of_wpIn (F:=Fence.wide) (n:=0) trivial ?_
 refine wpIn_mono (hbody pre x hok l ⟨C.P,C.N,W,wG,B1,pin1⟩ rfl rfl hpl _ _ (St.ex hI2)) ?_
 intro e1 a1 ed hq
 cases e1 with
 |normal =>
  obtain⟨σ1,⟨wG1,mu1,hg1,hst1⟩,hnext⟩:=hq;have hw1l:ed.heap[l]?=some (.loop (du fnn tmps #[pt] assign body D true)):=(hst1.block l hlW hlB).trans hrl
  have hln:∀o ob,σ1.H o=some (some ob)->l ∉ (mu1 o).blocks:=fun o ob ho hb=>by
   rcases(hst1.nd o ob ho).2 l hb with q|q
   ·exact hlB q
   ·have q:W.heap.size<=l:=q
    omega
  refine⟨_,run_beginRound hw1l rfl,?_⟩
  have hst2:=hst1.putL hw1l hln (.loop { du fnn tmps #[pt] assign body D true with state:=.busy }) hlW
  let C2:Cx:=⟨C.P,C.N,W.putObj l (.loop { du fnn tmps #[pt] assign body D true with state:=.busy }),wG,B1,pin1⟩
  have hE2:ax ⟨C.P,C.N,W.putObj l (.loop { du fnn tmps #[pt] assign body D true with state:=.busy }),wG,B1,pin1⟩ σ1 a1 (ed.putObj l (.loop { du fnn tmps #[pt] assign body D true with state:=.busy })) :=
   ⟨wG1,mu1,⟨hg1.kept,fun p u hp'=>(hg1.new p u hp').imp id (Or.imp (fun q=>by show(W.putObj l _).heap.size<=_;rw[World.putObj_size];exact q) id)⟩,hst2⟩
  refine wpIn_mono (hnext C2 rfl rfl hpl _ _ hE2) ?_
  intro e2 a3 w3 hq2
  have fin:∀(b:Bool) (jump:Option Code) (hp':List (Nat×Option Ob)),hp'=Ib hp hpx (pre++[x]) b->iL bx hp'=true->go pre x=b->({ du fnn tmps #[pt] assign body D true with state:=if jump.isNone then .ready else .done,pending:=jump }:Loop)=du fnn tmps #[pt] assign body D b->jump.isNone=b ->
    ax ⟨C.P,C.N,W.putObj l (.loop { du fnn tmps #[pt] assign body D true with state:=.busy }),wG,B1,pin1⟩ ⟨[],(900,some (.ints e .i64 x))::hp'⟩ a3 w3 ->
    ∃u w',(Instr.endRound l jump).run C.P w3=.ok u w'/\∃S',Ending.returned u=.returned (.bool (go pre x))/\lT C.P C.pin C.wF fr hp hpx tmps (du fnn tmps #[pt] assign body D) l D (pre++[x]) (go pre x) w' S'/\S'.Nodup/\(∀k∈S,k∈S')/\(∀k∈S',(k∈S\/W.heap.size<=k)/\k<w'.heap.size) /\
     w'.ownsRow 0 e 1 v x.length (x.map (.int .i64))/\OsD W w'/\w'.tape=W.tape/\w'.output=W.output/\W.heap.size<=w'.heap.size/\∀k,k<W.heap.size->k ∉ S->ae v≠some k->w'.heap[k]?=W.heap[k]?:=by
   intro b jump hp' hhp' hok' hgo hrec hjump ⟨wG3,mu3,hg3,hst3⟩
   have hsz3:W.heap.size<=w3.heap.size:=by
    have this:(W.putObj l (.loop { du fnn tmps #[pt] assign body D true with state:=.busy })).heap.size<=w3.heap.size:=hst3.size
    rwa[World.putObj_size]at this
   have hblk:∀k,k<W.heap.size->¬ B1 k->w3.heap[k]?=(W.putObj l (.loop { du fnn tmps #[pt] assign body D true with state:=.busy })).heap[k]?:=fun k hk hn=>hst3.block k (by show k<(W.putObj l _).heap.size;rw[World.putObj_size];exact hk) hn
   have hl3:w3.heap[l]?=some (.loop { du fnn tmps #[pt] assign body D true with state:=.busy }):=(hblk l hlW hlB).trans (World.putObj_heap_same hlW)
   have hl3lt:l<w3.heap.size:=by omega
   have hD3:w3.heap[D]?=some (.deferred (some [])):=(hblk D hDW hDB).trans ((World.putObj_heap_other (fun e=>hlD e.symm)).trans hrD)
   have ω:=run_endRound (P:=C.P) jump hl3
   rw[show({ ({ du fnn tmps #[pt] assign body D true with state:=.busy }:Loop)with state:=if jump.isNone then .ready else .done,pending:=jump }:Loop)=du fnn tmps #[pt] assign body D b from hrec,hjump]at ω
   refine⟨_,_,ω,?_⟩
   have hDone:=hB.done (hhp pre).1 hok' hfr hst3 hg3.kept (v:=v) (by rw[hpin1];rfl)
   obtain⟨hmu9,hB3⟩:=hDone;have hH9:(⟨[],(900,some (.ints e .i64 x))::hp'⟩:State).H 900=some (some (.ints e .i64 x)):=rfl
   let w4:=w3.putObj l (.loop (du fnn tmps #[pt] assign body D b))
   have hoth:∀k,k≠l->w4.heap[k]?=w3.heap[k]?:=fun k hk=>World.putObj_heap_other hk
   have hsz4:w4.heap.size=w3.heap.size:=World.putObj_size
   let S':=(List.range w4.heap.size).filter fun k=>decide (k∈S)||decide (W.heap.size<=k)
   have hS':∀k,k∈S'↔k<w4.heap.size/\(k∈S\/W.heap.size<=k):=fun k=>by simp[S']
   have hSS:∀k∈S,k∈S':=fun k hk=>(hS' k).2 ⟨by rw[hsz4];have:=hSl k hk;omega,.inl hk⟩
   have hvl:ae v≠some l:=hvS l hlS
   have hkG3:bL wG wG3:=hg3.kept
   have hvb:∀k,ae v=some k->w4.heap[k]?=w3.heap[k]?:=fun k hk=>hoth k fun e=>hvl (e ▸ hk)
   refine⟨S',by rw[hgo],?_,Bb.filter _,hSS,fun k hk=>⟨((hS' k).1 hk).2,((hS' k).1 hk).1⟩,?_,⟨hst3.os.os,hst3.os.drawn⟩,hst3.tape,hst3.output,by rw[hsz4];exact hsz3,fun k hk hkS hkv=>?_⟩
   ·rw[hgo]
    refine⟨hSS l hlS,hSS D hDS,World.putObj_heap_same hl3lt,(hoth D (fun e=>hlD e.symm)).trans hD3,wG3,mu3,fun p u hp2=>hkG3 p u (hk1 p u hp2),fun q u hq3=>?_,?_⟩
    ·have hc3:=(hst3.cells q u hq3).2
     have hc4:w4.cell? q=some u:=(Ia hl3 hc3).2
     have hlt3:=cell_lt' hc4
     rcases hg3.new q u hq3 with z|z|z
     ·rcases hk2 q u z with y|⟨y1,y2⟩
      ·exact .inl y
      ·exact .inr ⟨hSS _ y1,hc4⟩
     ·refine .inr ⟨(hS' _).2 ⟨hlt3,.inr ?_⟩,hc4⟩
      have z:(W.putObj l _).heap.size<=q.block:=z
      rwa[World.putObj_size]at z
     ·have z:B1 q.block:=z
      rw[hB1]at z;rcases z with z|z
      ·exact .inr ⟨hSS _ z.1,hc4⟩
      ·exfalso
       have:=(hst3.cells q u hq3).1 900 _ hH9
       rw[hmu9]at this;exact this (by simp[Img.blocks,z])
    ·rw[<-hhp']
     refine(hB3.world fun k hk=>hoth k fun e=>?_).blocks fun o ob ho k hk hkb=>?_
     ·subst e
      rcases hk.1 with z|z
      ·exact hlB z
      ·have z:(W.putObj k _).heap.size<=k:=z
       rw[World.putObj_size]at z;omega
     ·obtain⟨z1,z2,z3⟩:=hkb
      have hne:k≠l/\k≠D:=by
       rcases z1 with z|z
       ·exact⟨fun e=>hlB (e ▸ z),fun e=>hDB (e ▸ z)⟩
       ·have z:(W.putObj l _).heap.size<=k:=z
        rw[World.putObj_size]at z;exact⟨fun e=>by omega,fun e=>by omega⟩
      refine⟨(hS' k).2 ⟨by rw[hsz4];exact z3,?_⟩,hne⟩
      rcases z1 with z|z
      ·have z:B1 k:=z
       rw[hB1]at z;rcases z with z|z
       ·exact .inl z.1
       ·exact absurd z z2
      ·have z:(W.putObj l _).heap.size<=k:=z
       rw[World.putObj_size]at z;exact .inr z
   ·have h9:=(hst3.ob 900 _ hH9).2
    rw[hmu9]at h9;exact dC h9 fun b hb=>hvb b hb
   ·have hne:k≠l:=fun e=>hkS (e ▸ hlS)
    rw[hoth k hne,hblk k hk fun h=>?_,World.putObj_heap_other hne]
    rw[hB1]at h;rcases h with h|h
    ·exact hkS h.1
    ·exact hkv h
  cases e2 with
  |normal=>exact fin true none (hp (pre++[x])) rfl (hhp _).1 hq2.1 rfl rfl hq2.2
  |ret=>exact fin false (some .ret) (hpx (pre++[x])) rfl (hhp _).2 hq2.1 rfl rfl hq2.2
  |_=>exact hq2.elim
 |_=>exact hq.elim
theorem wM(k:Nat)(ds:List FC):fS k (ds.map .c)=ds.map di/\lj k (ds.map .c)=[]:=by
 induction ds generalizing k with
 |nil=>exact⟨rfl,rfl⟩
 |cons d ds ih =>
  obtain⟨h1,h2⟩:=ih (k+1);exact⟨by show di d::fS (k+1) (ds.map .c)=_;rw[h1];rfl,by show []++lj (k+1) (ds.map .c)=_;rw[h2];rfl⟩
theorem QC:∀{cps:List (Nat×List FC)} {i k:Nat} {x:Option Ob},lk (iB i (jo cps)) k=some x->∃j o ds,cps[j]?=some (o,ds)/\k=c8 (i+j)/\x=some (.box (ds.map di))
 | [],i,k,x,h=>by cases h
 |(o,ds)::cps,i,k,x,h=>by
  have h:lk (((c8 i,some (.box (fS (c8 i+1) (ds.map .c))))::lj (c8 i+1) (ds.map .c))++iB (i+1) (jo cps)) k=some x:=h
  rw[(wM _ ds).1,(wM _ ds).2,Bj,Ba,bm]at h;split at h
  ·rename_i e
   cases h;exact⟨0,o,ds,rfl,e.symm,rfl⟩
  ·obtain⟨j,o',ds',h1,h2,h3⟩:=QC h
   exact⟨j+1,o',ds',by simpa using h1,by rw[h2];unfold c8;omega,h3⟩
theorem QD:∀{cps:List (Nat×List FC)} {i j:Nat} {o:Nat} {ds:List FC},cps[j]?=some (o,ds)->lk (iB i (jo cps)) (c8 (i+j))=some (some (.box (ds.map di)))
 | [],i,j,o,ds,h=>by simp at h
 |(o',ds')::cps,i,j,o,ds,h=>by
  show lk (((c8 i,some (.box (fS (c8 i+1) (ds'.map .c))))::lj (c8 i+1) (ds'.map .c))++iB (i+1) (jo cps)) (c8 (i+j))=_
  rw[(wM _ ds').1,(wM _ ds').2,Bj,Ba,bm];cases j with
  |zero =>
   simp only[CT,AC,BT]at h;obtain⟨rfl,rfl⟩:=h;rw[AA (by rfl)]
  |succ j =>
   rw[AB (by unfold c8;omega),show i+(j+1)=i+1+j by omega]
   exact QD (by simpa using h)
theorem aa9{E E':Env}(hw:E'.wF=E.wF){ds:List FC}{arr:Array Value}(h:c7 E (ds.map di) arr):c7 E' (ds.map di) arr:=by
 refine⟨h.1,fun i c hc=>?_⟩
 obtain⟨u,h1,h2,h3⟩:=h.2 i c hc;refine⟨u,h1,h2,?_⟩
 rw[Ai]at hc;cases hd:ds[i]? with
 |none=>rw[hd]at hc;cases hc
 |some d =>
  rw[hd]at hc;cases hc;exact PP h3 fun _ p u hp=>by rw[hw];exact hp
theorem ab0{f:FuncId}{ct:List AD->Option Post}(hf:Fits C.P f ⟨[(0,93),(0,93)],ct⟩){pinl:List Nat}(hpins:∀o m,C.pin o=some m->o∈pinl){t pt:Nat}{assign body:Code}
  {e:TypeId}{go:D2->D1->Bool}{ok:D2->D1->Prop}{bx:List Nat}{fr:List (Nat×SV)}{hp hpx:D2->List (Nat×Option Ob)}{cps:List (Nat×List FC)}
  (hchk:H8 C.N t pt bx pinl fr (hp []) cps=true)(hhp:∀pre,iL bx (hp pre)=true/\iL bx (hpx pre)=true){a:Act}{w:World}(hs:ax C ⟨(t,.fn f (nq cps))::fr,hp []++lR cps⟩ a w)
  (hbody:∀pre x,ok pre x->∀(l:Nat) (C1:Cx),C1.P=C.P->C1.N=C.N->(∀o m,C1.pin o=some m->o∈900::(bx++pinl))->∀a w,ax C1 ⟨(pt,.c (.own 900))::fr,(900,some (.ints e .i64 x))::hp pre⟩ a w ->
   assign.wpIn (eh (some l)) 0 C.P (Exit.then (fun a1 ed=>∃σ1,ax C1 σ1 a1 ed/\∀(C2:Cx),C2.P=C.P->C2.N=C.N->(∀o m,C2.pin o=some m->o∈900::(bx++pinl))->∀a w,ax C2 σ1 a w->body.wpIn (eh (some l)) 0 C.P (QB C2 e go hp hpx pre x) a w) (fun _ _ _=>False)) a w)
  {Q:Exit->Act->World->Prop}
  (hfin:∀Y:YJ,Y.P=C.P->Y.e=e->Y.go=go->Y.ok=ok->pe ct cps Y fun xs b=>(b=true->∀a w,ax C ⟨fr,hp xs⟩ a w->Q .normal a w)/\(b=false->∀a w,ax C ⟨fr,hpx xs⟩ a w->Q .ret a w)) :
  (Code.rangeFunc (.tmp t) #[pt] assign body).wpIn (eh none) 0 C.P Q a w:=by
 obtain⟨wG0,mu0,hg0,h0⟩:=hs;obtain⟨⟨⟨⟨⟨hptN,hfrk⟩,hcn⟩,hcd⟩,htf⟩,hpl⟩:((((Nat.blt pt C.N=true/\nn bx fr=true)/\fm (cps.map (·.1))=true)/\(cps.all fun p=>cA p.1 ((hp []).map (·.1)))=true)/\cA t (fr.map (·.1))=true)/\(pinl.all fun p=>!(cA p ((hp []).map (·.1))))=true:=by
  unfold H8 at hchk;simp only[AL]at hchk;exact hchk
 have hptN:pt<C.N:=Nat.le_of_ble_eq_true hptN
 have hcn:=kC hcn
 have hcd:∀p∈cps,p.1 ∉ (hp []).map (·.1):=fun p hp2=>jj (AW.1 hcd p hp2)
 have htf:=jj htf
 have hpl:∀p∈pinl,p∈(hp []).map (·.1):=fun p hp2=>lS (by simpa using AW.1 hpl p hp2)
 obtain⟨arr,harr,hasz,hael⟩:=h0.fr t (.fn f (nq cps)) (by show lk ((t,_)::fr) t=_;rw[bm,AA rfl])
 obtain⟨fnF,k1,k2,k3⟩:=hf.fn;obtain⟨σP,hσP⟩:∃σP:State,σP=⟨(t,.fn f (nq cps))::fr,hp []++lR cps⟩:=⟨_,rfl⟩;rw[<-hσP]at h0 hael;have hHl:∀o,σP.H o=match lk (hp []) o with|some x=>some x|none=>lk (lR cps) o:=fun o=>by
  rw[hσP]
  show lk (hp []++lR cps) o=_
  rw[gk];cases lk (hp []) o<;>rfl
 have hHp:∀o x,lk (hp []) o=some x->σP.H o=some x:=fun o x ho=>by rw[hHl,ho]
 have hHc:∀o ds,(o,ds)∈cps->σP.H o=some (some (.box (ds.map di))):=fun o ds hm=>by
  rw[hHl];have:lk (hp []) o=none:=by
   cases hq:lk (hp []) o with
   |none=>rfl
   |some x=>exact absurd (AH.2 ⟨_,nm hq,rfl⟩) (hcd _ hm)
  rw[this];exact wj (l:=lR cps) (by rw[show(lR cps).map (·.1)=cps.map (·.1) by simp[lR,Function.comp_def]];exact hcn) (AH.2 ⟨_,hm,rfl⟩)
 have hne:∀o x o' ds,lk (hp []) o=some x->(o',ds)∈cps->o≠o':=fun o x o' ds h1 h2 e=>by
  subst e;exact hcd _ h2 (AH.2 ⟨_,nm h1,rfl⟩)
 have hcinj:∀(j j' o:Nat) (ds ds':List FC),cps[j]?=some (o,ds)->cps[j']?=some (o,ds')->j=j':=fun j j' o ds ds' h1 h2=>by
  have q1:(cps.map (·.1))[j]?=some o:=by simp[h1]
  have q2:(cps.map (·.1))[j']?=some o:=by simp[h2]
  exact(DF (AN.1 q1).1 hcn).1 (q1.trans q2.symm)
 obtain⟨hk1,hk2⟩:=wL (hhp []).1;obtain⟨D,hD⟩:∃D,D=w.heap.size:=⟨_,rfl⟩;obtain⟨l,hl⟩:∃l,l=w.heap.size+1:=⟨_,rfl⟩;have hlD:l≠D:=by omega
 refine wpIn_rangeFunc (F:=eh none) ?_
 intro fnn _
 obtain⟨W1,hW1⟩:∃W1,W1=(w.alloc (.deferred (some []))).alloc (.loop (du fnn a.tmps #[pt] assign body D true)):=⟨_,rfl⟩;have hsz1:W1.heap.size=w.heap.size+2:=by rw[hW1];simp
 have hold:∀b,b<w.heap.size->W1.heap[b]?=w.heap[b]?:=fun b hb=>by
  rw[hW1,Below.heap_alloc _ _ _ (by simp;omega),Below.heap_alloc _ _ _ hb]
 have hrl1:W1.heap[l]?=some (.loop (du fnn a.tmps #[pt] assign body D true)):=by
  have:=World.alloc_heap_new (w.alloc (.deferred (some []))) (.loop (du fnn a.tmps #[pt] assign body D true))
  rw[World.size_alloc]at this;rw[hW1,hl];exact this
 have hrD1:W1.heap[D]?=some (.deferred (some [])):=by
  rw[hW1,hD];exact(Below.heap_alloc _ _ _ (by simp)).trans (World.alloc_heap_new w _)
 have hosd1:OsD w W1:=by
  have g1:=(fQ w (.deferred (some [])) none).os
  have g2:=(fQ (w.alloc (.deferred (some []))) (.loop (du fnn a.tmps #[pt] assign body D true)) none).os
  rw[hW1];exact g2.trans g1
 have htp1:W1.tape=w.tape/\W1.output=w.output:=by
  rw[hW1];exact⟨(fQ (w.alloc (.deferred (some []))) _ none).tape.trans (fQ w _ none).tape,(fQ (w.alloc (.deferred (some []))) _ none).output.trans (fQ w _ none).output⟩
 have hB0:StB C.P C.pin ⟨fr,hp []⟩ mu0 a.tmps wG0 w (fun b=>∃o ob,lk (hp []) o=some (some ob)/\b∈(mu0 o).blocks):=by
  have hst:∀o x,lk (hp []) o=some x->State.ost ⟨fr,hp []⟩ o=σP.ost o:=fun o x ho=>by
   have h2:(⟨fr,hp []⟩:State).H o=some x:=ho
   simp only[State.ost,hHp o x ho,h2]
  refine⟨fun p u hp2 o ob ho=>(h0.cells p u hp2).1 o ob (hHp o _ ho),fun t' sv ht'=>?_,fun o ob ho=>?_,fun o ob ho=>⟨(h0.nd o ob (hHp o _ ho)).1,fun b hb=>⟨o,ob,ho,hb⟩⟩,fun o o' ob ob' hn ho ho'=>h0.sep o o' ob ob' hn (hHp o _ ho) (hHp o' _ ho'),fun o m hm=>?_⟩
  ·have hF:σP.F t'=some sv:=by
    rw[hσP]
    show lk ((t,_)::fr) t'=some sv
    rw[bm,AB (by intro e9;subst e9;exact htf (AH.2 ⟨_,nm ht',rfl⟩))]
    exact ht'
   have h2:=h0.fr t' sv hF
   rcases H9 hfrk t' sv ht' with h3|⟨o,rfl,ho⟩
   ·exact h3 _ (σP.env wG0 mu0) _ _ (fun _ _ h=>h) h2
   ·obtain⟨c,cs,hl2⟩:=hk2 o ho
    refine⟨h2.1,?_⟩
    have h3:=h2.2
    rw[show(State.env ⟨fr,hp []⟩ wG0 mu0).st o=(σP.env (C.fz wG0).wF mu0).st o from hst o _ hl2]
    exact h3
  ·obtain⟨_,ob',z1,z2⟩:=hk1 o _ ho
   cases z1;exact QA (E:=σP.env wG0 mu0) (E':=(⟨fr,hp []⟩:State).env wG0 mu0) rfl (fun o2 ho2=>by
    obtain⟨x2,hx2⟩:=lO ho2;exact⟨hst o2 x2 hx2,rfl⟩) z2 (h0.ob o ob (hHp o _ ho))
  ·have h2:=h0.pins o m hm
   obtain⟨x2,hx2⟩:=lO (hpl o (hpins o m hm));rw[hst o x2 hx2];exact h2
 classical
 obtain⟨S0,hS0⟩:∃S0:List Nat,S0=(List.range W1.heap.size).filter fun b=>decide (b=l\/b=D\/∃o ob,lk (hp []) o=some (some ob)/\b∈(mu0 o).blocks):=⟨_,rfl⟩
 have hblt:∀o ob,σP.H o=some (some ob)->∀b∈(mu0 o).blocks,b<w.heap.size:=fun o ob ho=>(h0.ob o ob ho).block
 have hS0i:∀b,b∈S0↔(b=l\/b=D\/∃o ob,lk (hp []) o=some (some ob)/\b∈(mu0 o).blocks):=fun b=>by
  rw[hS0];simp only[An,Af,Ab];refine⟨fun h=>h.2,fun h=>⟨?_,h⟩⟩
  rcases h with h|h|⟨o,ob,h1,h2⟩
  ·omega
  ·omega
  ·have:=hblt o ob (hHp o _ h1) b h2;omega
 have hS0n:S0.Nodup:=by rw[hS0];exact Bb.filter _
 have hS0l:∀b∈S0,b<W1.heap.size:=fun b hb=>by rw[hS0]at hb;simpa using(An.1 hb).1
 have hJ0:lT C.P C.pin wG0 fr hp hpx a.tmps (du fnn a.tmps #[pt] assign body D) l D [] true W1 S0:=by
  refine⟨(hS0i l).2 (.inl rfl),(hS0i D).2 (.inr (.inl rfl)),hrl1,hrD1,wG0,mu0,fun _ _ h=>h,fun q u hq=>.inl hq,?_⟩
  refine(hB0.world (W':=W1) fun b hb=>?_).blocks fun o ob ho b hb _=>?_
  ·obtain⟨o,ob,h1,h2⟩:=hb
   exact hold b (hblt o ob (hHp o _ h1) b h2)
  ·have:=hblt o ob (hHp o _ ho) b hb
   exact⟨(hS0i b).2 (.inr (.inr ⟨o,ob,ho,hb⟩)),by omega,by omega⟩
 obtain ⟨Y, hY⟩ : ∃ Y : YJ, Y = { P:=C.P,l,e,wF:=wG0,go,ok,J:=fun pre b W S=>lT C.P C.pin wG0 fr hp hpx a.tmps (du fnn a.tmps #[pt] assign body D) l D pre b W S,
                                   loc:=fun _ _ _ _ _ h hk=>aa7 h hk,
                                   spec:=fun pre x W S v hJ hok hSn hSl hv1 hrow hvS hwF=>aa8 (C:=C.fz wG0) hpins hfrk hhp h0.sz hptN hbody hlD hJ hok hSn hSl hv1 hrow hvS hwF }:=⟨_,rfl⟩
 have y1:Y.P=C.P:=by rw[hY]
 have y2:Y.l=l:=by rw[hY]
 have y3:Y.wF=wG0:=by rw[hY]
 have y4:∀pre b W S,Y.J pre b W S↔lT C.P C.pin wG0 fr hp hpx a.tmps (du fnn a.tmps #[pt] assign body D) l D pre b W S:=fun pre b W S=>by rw[hY]
 have hpost:=hfin Y y1 (by rw[hY]) (by rw[hY]) (by rw[hY])
 clear hY;unfold pe at hpost;split at hpost
 ·rename_i q outs hct
  split at hpost
  ·rename_i v' Y' xs b rest
   obtain⟨hq,hYY,hR1,hR2⟩:=hpost;subst hYY;have srun:=hf.st rfl (.m (.ob (.yd 0 Y' [] true))::jo cps) q (.tup []) [] _ hct hq
   obtain⟨mas,hmas⟩:∃mas:List MA,mas=.m (.ob (.yd 0 Y' [] true))::jo cps:=⟨_,rfl⟩;rw[<-hmas]at srun;have hml:mas.length=cps.length+1:=by rw[hmas];simp[jo]
   have hHm:∀k,(eP mas).H k=if 7000=k then some (some (.yd 0 Y' [] true))else lk (iB 1 (jo cps)) k:=fun k=>by
    rw[hmas]
    show lk ((7000,some (Ob.yd 0 Y' [] true))::iB 1 (jo cps)) k=_
    rw[bm]
   obtain⟨ydI,hydI⟩:∃ydI:Img,ydI=⟨.func (.yield l) #[] #[],S0.map fun b=>.pointer (some ⟨b,0,none⟩)⟩:=⟨_,rfl⟩
   have hydB:ydI.blocks=S0:=by
    rw[hydI]
    show(ae (.func (.yield l) #[] #[])).toList++(S0.map fun b=>Value.pointer (some ⟨b,0,none⟩)).filterMap ae=S0
    rw[List.filterMap_map]
    show []++S0.filterMap (fun b=>some b)=S0
    simp
   obtain⟨muI,hmuI⟩:∃muI:Nat->Img,muI=fun k=>if k=7000 then ydI else mu0 (((cps[(k-7100) / 100]?).map (·.1)).getD 0):=⟨_,rfl⟩
   have hmu7:muI 7000=ydI:=by rw[hmuI];rfl
   have hmuC:∀j o ds,cps[j]?=some (o,ds)->muI (c8 (1+j))=mu0 o:=fun j o ds hj=>by
    rw[hmuI]
    show(if c8 (1+j)=7000 then ydI else mu0 (((cps[(c8 (1+j)-7100) / 100]?).map (·.1)).getD 0))=_
    rw[AB (by unfold c8;omega),show(c8 (1+j)-7100) / 100=j by unfold c8;omega,hj]
    rfl
   have hcase:∀k ob,(eP mas).H k=some (some ob)->(k=7000/\ob=.yd 0 Y' [] true)\/∃j o ds,cps[j]?=some (o,ds)/\k=c8 (1+j)/\ob=.box (ds.map di):=fun k ob hk=>by
    rw[hHm]at hk;split at hk
    ·rename_i e7;cases hk;exact .inl ⟨e7.symm,rfl⟩
    ·obtain⟨j,o,ds,z1,z2,z3⟩:=QC hk
     cases z3;exact .inr ⟨j,o,ds,z1,z2,rfl⟩
   obtain⟨M,hM⟩:∃M:Nat->Prop,M=fun b=>b∈S0\/∃o ds,(o,ds)∈cps/\b∈(mu0 o).blocks:=⟨_,rfl⟩
   have hst:St ⟨C.P,mas.length,W1,wG0,M,fun _=>none⟩ (eP mas) muI ⟨(Value.func (.yield l) #[] #[]::arr.toList).toArray,[]⟩ W1:=by
    refine⟨.refl _,rfl,rfl,AE _,fun _ _ _=>rfl,fun p u hp2=>?_,?_,.nil,fun t' sv ht'=>?_,fun k ob hk=>?_,fun k ob hk=>?_,fun k k' ob ob' hn hk hk' b hb hb'=>?_,fun o m hm=>by cases hm⟩
    ·obtain⟨z1,z2⟩:=h0.cells p u hp2
     have ψ:=cell_lt' z2
     refine⟨fun k ob hk hb=>?_,by rw[World.cell?_of_block (hold _ ψ)];exact z2⟩
     rcases hcase k ob hk with⟨rfl,_⟩|⟨j,o,ds,q1,rfl,rfl⟩
     ·rw[hmu7,hydB]at hb
      rcases(hS0i _).1 hb with h|h|⟨o,ob2,h1,h2⟩
      ·omega
      ·omega
      ·exact z1 o ob2 (hHp o _ h1) h2
     ·rw[hmuC j o ds q1]at hb
      exact z1 o _ (hHc o ds (AK q1)) hb
    ·show(Value.func (.yield l) #[] #[]::arr.toList).toArray.size=mas.length
     simp[hml,hasz,nq]
    ·obtain⟨j,x,q1,q2,rfl⟩:=wg ht'
     rw[AJ]at q2;subst q2;rw[hmas]at q1;cases t' with
     |zero =>
      simp only[CT,AC]at q1;subst q1;refine⟨rfl,?_⟩
      rw[show((eP mas).env wG0 muI).st (c8 0)=.live (Ob.yd 0 Y' [] true).shp from b8 (σ:=eP mas) (o:=c8 0) (by rw[hHm];exact AA rfl)]
      show _=(muI 7000).hd
      rw[hmu7,hydI];rfl
     |succ j =>
      simp only[Bp,jo,Ai]at q1;cases hj:cps[j]? with
      |none=>rw[hj]at q1;cases q1
      |some od =>
       obtain⟨o,ds⟩:=od;rw[hj]at q1;simp only[Ch,AC]at q1;subst q1;obtain⟨u,z1,z2,z3⟩:=hael j (.ptr o 0) (by simp[nq,hj])
       have hgd:(Value.func (.yield l) #[] #[]::arr.toList).toArray.getD (j+1) undef=u:=by
        rw[BO];simp[z1]
       show av C.P _ (.c (.ptr (c8 (j+1)) 0)) _
       rw[hgd];have hHo:=hHc o ds (AK hj)
       have z4:=z3.2
       rw[show(σP.env (C.fz wG0).wF mu0).st o=.live (Ob.box (ds.map di)).shp from b8 hHo]at z4
       have hHb:(eP mas).H (c8 (j+1))=some (some (.box (ds.map di))):=by
        rw[hHm,AB (by unfold c8;omega),show j+1=1+j by omega]
        exact QD hj
       refine⟨z2,?_⟩
       rw[show((eP mas).env wG0 muI).st (c8 (j+1))=.live (Ob.box (ds.map di)).shp from b8 hHb]
       refine⟨z4.1,?_⟩
       show ∃b,ae (muI (c8 (j+1))).hd=some b/\_
       rw[show j+1=1+j by omega,hmuC j o ds hj]
       exact z4.2
    ·rcases hcase k ob hk with⟨rfl,rfl⟩|⟨j,o,ds,q1,rfl,rfl⟩
     ·rw[hmu7]
      refine⟨by rw[hydI,y2],by rw[y3];exact fun _ _ h=>h,?_,by rw[hydB];exact hS0l⟩
      rw[hydB];exact(y4 _ _ _ _).2 hJ0
     ·rw[hmuC j o ds q1]
      obtain⟨b,arr2,ty,z1,z2,z3,z4⟩:=h0.ob o _ (hHc o ds (AK q1));refine⟨b,arr2,ty,z1,z2,?_,aa9 (E:=σP.env wG0 mu0) (E':=(eP mas).env wG0 muI) rfl z4⟩
      rw[hold b (BC.1 z3).1];exact z3
    ·rcases hcase k ob hk with⟨rfl,rfl⟩|⟨j,o,ds,q1,rfl,rfl⟩
     ·rw[hmu7,hydB]
      exact⟨hS0n,fun b hb=>.inl (by show M b;rw[hM];exact .inl hb)⟩
     ·rw[hmuC j o ds q1]
      exact⟨(h0.nd o _ (hHc o ds (AK q1))).1,fun b hb=>.inl (by show M b;rw[hM];exact .inr ⟨o,ds,AK q1,hb⟩)⟩
    ·have hyc:∀j o ds,cps[j]?=some (o,ds)->∀b∈S0,b ∉ (mu0 o).blocks:=fun j o ds hj b hb hb'=>by
      have hHo:=hHc o ds (AK hj)
      have:=hblt o _ hHo b hb'
      rcases(hS0i _).1 hb with h|h|⟨o2,ob2,h1,h2⟩
      ·omega
      ·omega
      ·exact h0.sep o2 o ob2 _ (hne o2 _ o ds h1 (AK hj)) (hHp o2 _ h1) hHo b h2 hb'
     rcases hcase k ob hk with⟨rfl,rfl⟩|⟨j,o,ds,q1,rfl,rfl⟩
     ·rcases hcase k' ob' hk' with⟨rfl,rfl⟩|⟨j',o',ds',q1',rfl,rfl⟩
      ·exact hn rfl
      ·rw[hmu7,hydB]at hb;rw[hmuC j' o' ds' q1']at hb'
       exact hyc j' o' ds' q1' b hb hb'
     ·rcases hcase k' ob' hk' with⟨rfl,rfl⟩|⟨j',o',ds',q1',rfl,rfl⟩
      ·rw[hmu7,hydB]at hb';rw[hmuC j o ds q1]at hb
       exact hyc j o ds q1 b hb' hb
      ·rw[hmuC j o ds q1]at hb;rw[hmuC j' o' ds' q1']at hb'
       refine h0.sep o o' _ _ (fun e9=>hn ?_) (hHc o ds (AK q1)) (hHc o' ds' (AK q1')) b hb hb'
       subst e9;rw[hcinj j j' o ds ds' q1 q1']
   have hMold:∀b,M b->b<w.heap.size->C.M b\/C.w0.heap.size<=b:=fun b hb ψ=>by
    rw[hM]at hb;rcases hb with hb|⟨o,ds,h1,h2⟩
    ·rcases(hS0i _).1 hb with h|h|⟨o,ob2,h1,h2⟩
     ·omega
     ·omega
     ·exact(h0.nd o _ (hHp o _ h1)).2 b h2
    ·exact(h0.nd o _ (hHc o ds h1)).2 b h2
   have hw0:C.w0.heap.size<=w.heap.size:=h0.size
   have hMall:∀b,(M b\/W1.heap.size<=b)->C.M b\/C.w0.heap.size<=b:=fun b hb=>by
    rcases hb with hb|hb
    ·by_cases ψ:b<w.heap.size
     ·exact hMold b hb ψ
     ·exact .inr (by omega)
    ·exact .inr (by omega)
   have hg:a.eval (.tmp t)=.func (.func f) #[] arr:=harr
   refine⟨l,[{ target:=.collected D,args:=#[] }],W1,{ target:=.fn (.func f) arr,args:=#[.func (.yield l) #[] #[]] },W1,f,#[.func (.yield l) #[] #[]]++arr,W1,?_,?_,fun _ _=>trivial,?_,fun h=>(by cases h),?_⟩
   ·have:=run_enterLoop_outer (P:=C.P) (w:=w) fnn a.tmps #[pt] assign body
    rw[hl,hD,hW1,hD];exact this
   ·simp only[resolve,hg]
    simp[go_sem]
   ·simp[invoke,go_sem,nf k1 k2 k3]
   ·have hvsA:(Value.func (.yield l) #[] #[]::arr.toList).toArray=#[.func (.yield l) #[] #[]]++arr:=by apply A5;simp
    have hcalls:=srun ⟨C.P,mas.length,W1,wG0,M,fun _=>none⟩ muI (Value.func (.yield l) #[] #[]::arr.toList) W1 rfl rfl rfl (by simp[hml,hasz,nq]) (fun o m hm=>by cases hm) hst
    rw[hvsA]at hcalls;refine(P7 (ro:=none) (n:=0-1)).2 (hcalls.mono ?_)
    rintro r W2 ⟨rv,rfl,wG2,mu2,hg2,hst2⟩
    have h7:(i9 (.tup []) (gD 0 (.m (.ob (.yd v' Y' xs b))::rest)++g4 [])).H 7000=some (some (.yd v' Y' xs b)):=rfl
    obtain⟨_,_,hJ2,hJ2l⟩:=hst2.ob 7000 _ h7;obtain⟨hn2,hm2⟩:=hst2.nd 7000 _ h7;obtain⟨S2,hS2⟩:∃S2,S2=(mu2 7000).blocks:=⟨_,rfl⟩;rw[<-hS2]at hJ2 hJ2l hn2 hm2;obtain⟨j1,j2,j3,j4,wG3,mu3,j5,j6,j7⟩:=(y4 _ _ _ _).1 hJ2;have hm2:∀k∈S2,C.M k\/C.w0.heap.size<=k:=fun k hk=>hMall k (hm2 k hk)
    have hblk2:∀k,k<C.w0.heap.size->¬ C.M k->W2.heap[k]?=C.w0.heap[k]?:=fun k hk hnM=>by
     have hMk:¬ M k:=fun h=>by
      rcases hMold k h (by omega)with z|z
      ·exact hnM z
      ·omega
     rw[hst2.block k (by show k<W1.heap.size;omega) hMk]
     show W1.heap[k]?=_
     rw[hold k (by omega)]
     exact h0.block k hk hnM
    obtain⟨W3,hW3⟩:∃W3,W3=W2.putObj l (.loop { du fnn a.tmps #[pt] assign body D b with state:=.exhausted }):=⟨_,rfl⟩
    have hoth:∀k,k≠l->W3.heap[k]?=W2.heap[k]?:=fun k hk=>by rw[hW3];exact World.putObj_heap_other hk
    have hsz3:W3.heap.size=W2.heap.size:=by rw[hW3];exact World.putObj_size
    have hsz2:W1.heap.size<=W2.heap.size:=hst2.size
    have hWF2:∀p u,wG3.cell? p=some u->W2.cell? p=some u:=fun p u hp2=>by
     rcases j6 p u hp2 with z|⟨_,z⟩
     ·exact(hst2.cells p u (hg2.kept p u z)).2
     ·exact z
    have hfinE:ax C ⟨fr,Ib hp hpx xs b⟩ { a with defers:=[{ target:=.collected D,args:=#[] }]++a.defers } W3:=by
     refine⟨wG3,mu3,⟨fun p u hp2=>j5 p u (hg0.kept p u hp2),fun p u hp2=>?_⟩,⟨?_,?_,?_,?_,fun k hk hnM=>?_,fun p u hp2=>⟨j7.apart p u hp2,?_⟩,h0.sz,?_,j7.fr,fun o ob ho=>?_,fun o ob ho=>⟨(j7.nd o ob ho).1,fun k hk=>hm2 k ((j7.nd o ob ho).2 k hk).1⟩,j7.sep,j7.pins⟩⟩
     ·rcases j6 p u hp2 with z|⟨z,_⟩
      ·exact hg0.new p u z
      ·exact .inr (hm2 _ z).symm
     ·rw[hW3]
      have q1:=hst2.os.trans hosd1 |>.trans h0.os
      exact⟨q1.os,q1.drawn⟩
     ·rw[hW3];exact hst2.tape.trans (htp1.1.trans h0.tape)
     ·rw[hW3];exact hst2.output.trans (htp1.2.trans h0.output)
     ·show C.w0.heap.size<=W3.heap.size;rw[hsz3];omega
     ·have hk:k<C.w0.heap.size:=hk
      rw[hoth k (by omega)];exact hblk2 k hk hnM
     ·rw[hW3];exact(Ia j3 (hWF2 p u hp2)).2
     ·obtain⟨rs,r1,r2,r3⟩:=h0.df
      have ψ:∀r∈rs,r<w.heap.size:=fun r hr=>(BC.1 (r3 r hr).2.1).1
      refine⟨D::rs,by simp[r1],AZ.2 ⟨fun h=>by have:=ψ D h;omega,r2⟩,fun r hr=>?_⟩
      rcases AG.1 hr with rfl|hr
      ·exact⟨by show C.w0.heap.size<=r;omega,by rw[hoth r (fun e=>hlD e.symm)];exact j4,fun o ob ho hb=>((j7.nd o ob ho).2 r hb).2.2 rfl⟩
      ·obtain⟨z1,z2,z3⟩:=r3 r hr
       have hrl:=ψ r hr
       have hMr:¬ M r:=fun h=>by
        rw[hM]at h;rcases h with h|⟨o,ds,q1,q2⟩
        ·rcases(hS0i _).1 h with h|h|⟨o,ob2,q1,q2⟩
         ·omega
         ·omega
         ·exact z3 o ob2 (hHp o _ q1) q2
        ·exact z3 o _ (hHc o ds q1) q2
       have hr2:W2.heap[r]?=some (.deferred (some [])):=by
        rw[hst2.block r (by show r<W1.heap.size;omega) hMr]
        show W1.heap[r]?=_
        rw[hold r hrl];exact z2
       refine⟨z1,by rw[hoth r (by omega)];exact hr2,fun o ob ho hb=>?_⟩
       have hS2r:=((j7.nd o ob ho).2 r hb).1
       rcases hst2.nd 7000 _ h7 |>.2 r (by rw[<-hS2];exact hS2r)with z|z
       ·exact hMr z
       ·have z:W1.heap.size<=r:=z
        omega
     ·exact(j7.ob o ob ho).keep (bX.refl _) fun k hk=>hoth k ((j7.nd o ob ho).2 k hk).2.1
    have ω:=run_endLoop (P:=C.P) j3 (by cases b<;>simp[du])
    rw[<-hW3]at ω;refine⟨_,_,ω,?_⟩
    cases b with
    |true=>exact hR1 rfl _ _ hfinE
    |false=>exact wpIn_ret (hR2 rfl _ _ hfinE)
  ·exact hpost.elim
 ·exact hpost.elim
end
end Go.Sx
end
section
namespace Go.Sx
open Go.RowKit
inductive Ann where
 |mk (X:Type) (inv:X->State) (pre:X->Prop) (m:X->Nat) (sub:X->Nat->Option Ann)
 |peel (M:Nat) (X:Type) (inv:X->State) (pre:X->Prop) (m:X->Nat) (sub:X->Nat->Option Ann)
 |rf (e:TypeId) (go:D2->D1->Bool) (ok:D2->D1->Prop) (bx:List Nat) (fr:List (Nat×SV)) (hp hpx:D2->List (Nat×Option Ob))
def wN(f g:Nat->Option Ann)(n:Nat):Option Ann :=
 match f n with
 |some a=>some a
 |none=>g n
def gI(σ n:State)(pins:List Nat):Prop :=
 match H1 (Qo σ n) n pins with
 |none=>False
 |some ps=>fV ps
structure Kn where
 P:Program
 Γ:FuncId->Option Ctr
 wr:Nat->Bool
 N:Nat
 pins:List Nat
 rd:Bool
def QE:Code->Option Nat
 |.region id _ _=>some id
 |.seq a _=>QE a
 |_=>none
def ab1(ann:Nat->Option Ann)(b:Code):Option Ann:=match QE b with
 |some r=>ann (r+1000)
 |none=>none
def Kn.rnd(k:Kn)(bx:List Nat):Kn:=⟨k.P,k.Γ,k.wr,k.N,900::(bx++k.pins),true⟩
def ab2(e:TypeId)(go:D2->D1->Bool)(hp hpx:D2->List (Nat×Option Ob))(pins:List Nat)(pre:D2)(x:D1):Exit->State->Prop:=fun e1 σ=>match e1 with
 |.normal=>go pre x=true/\gI σ ⟨[],(900,some (.ints e .i64 x))::hp (pre++[x])⟩ pins
 |.ret=>go pre x=false/\gI σ ⟨[],(900,some (.ints e .i64 x))::hpx (pre++[x])⟩ pins
 |_=>False
def em(k:Kn):Code->Nat->(Nat->Option Ann)->State->(Exit->State->Prop)->Prop
 |.skip,_,_,σ,K=>K .normal σ
 |.label _,_,_,σ,K=>K .normal σ
 |.ret,_,_,σ,K=>K .ret σ
 |.exit id,_,_,σ,K=>K (.exit id) σ
 |.region _ ops draw,_,_,σ,K=>match draw with
  |false=>kE k.P k.Γ k.wr k.N ops ops.toList 0 σ [] fun σ' _=>K .normal σ'
  |true=>match k.P.follows .mixedOrders with
   |true=>kE k.P k.Γ k.wr k.N ops ops.toList 0 σ [] fun σ' es=>match HS ops.toList es with
    |true=>K .normal σ'
    |false=>False
   |false=>False
 |.seq a b,_,ann,σ,K=>match ab1 ann b with
  |some (.mk _ inv pre _ sub)=>(em k a 0 ann σ fun e σ'=>match e with
   |.normal=>∃x,pre x/\gI σ' (inv x) k.pins
   |e=>K e σ')/\∀x,pre x->em k b 0 (wN (sub x) ann) (inv x) K
  |_=>em k a 0 ann σ fun e σ'=>match e with
   |.normal=>em k b 0 ann σ' K
   |e=>K e σ'
 |.cond c a b,_,ann,σ,K=>match c with
  |.tmp t=>match σ.F t with
   |some (.c (.bool x))=>ab x (em k a 0 ann σ K) (em k b 0 ann σ K)
   |_=>False
  |_=>False
 |.block id c,_,ann,σ,K=>em k c id ann σ fun e σ'=>match e with
  |.exit id'=>match Nat.beq id' id with
   |true=>K .normal σ'
   |false=>K (.exit id') σ'
  |e=>K e σ'
 |.loop c,cur,ann,σ,K=>match ann cur with
  |none=>False
  |some (.mk _ inv pre m sub)=>(∃x,pre x/\gI σ (inv x) k.pins)/\∀x,pre x->em k c 0 (wN (sub x) ann) (inv x) fun e σ'=>match e with
   |.normal=>∃x',pre x'/\m x'<m x/\gI σ' (inv x') k.pins
   |e=>K e σ'
  |some (.rf _ _ _ _ _ _ _)=>False
  |some (.peel M _ inv pre m sub)=>(em k c 0 ann σ fun e σ'=>match e with
   |.normal=>∃x',pre x'/\m x'<M/\gI σ' (inv x') k.pins
   |e=>K e σ')/\∀x,pre x->em k c 0 (wN (sub x) ann) (inv x) fun e σ'=>match e with
   |.normal=>∃x',pre x'/\m x'<m x/\gI σ' (inv x') k.pins
   |e=>K e σ'
 |.rangeFunc g ps assign body,cur,ann,σ,K=>match k.rd with
  |true=>False
  |false=>match ann cur with
   |some (.rf e go ok bx fr hp hpx)=>match g,ps.toList with
    |.tmp t,[pt]=>match σ.F t with
     |some (.fn f caps)=>match Qz σ caps with
      |none=>False
      |some cps=>match k.Γ f with
       |some ⟨[(0,93),(0,93)],ct⟩=>match H8 k.N t pt bx k.pins fr (hp []) cps with
        |false=>False
        |true=>(∀pre,iL bx (hp pre)=true/\iL bx (hpx pre)=true) /\
         gI σ ⟨(t,.fn f (nq cps))::fr,hp []++lR cps⟩ k.pins /\
         (∀pre x,ok pre x->em (k.rnd bx) assign 0 ann ⟨(pt,.c (.own 900))::fr,(900,some (.ints e .i64 x))::hp pre⟩ fun e1 σ1=>match e1 with
          |.normal=>em (k.rnd bx) body 0 ann σ1 (ab2 e go hp hpx (900::(bx++k.pins)) pre x)
          |_=>False) /\
         ∀Y:YJ,Y.P=k.P->Y.e=e->Y.go=go->Y.ok=ok->pe ct cps Y fun xs b=>(b=true->K .normal ⟨fr,hp xs⟩)/\(b=false->K .ret ⟨fr,hpx xs⟩)
       |_=>False
     |_=>False
    |_,_=>False
   |_=>False
 |_,_,_,_,_=>False
section
variable {C:Cx}
def Ic(C:Cx)(K:Exit->State->Prop):Exit->Act->World->Prop:=fun e a w=>∃σ',ax C σ' a w/\K e σ'
theorem ab3{σ:State}{a:Act}{w:World}(h:ax C σ a w):ax C σ a { w with drawn:=w.drawn+1 }:=by
 obtain⟨wG,mu,hg,q⟩:=h;exact⟨wG,mu,hg,⟨q.os.os,Nat.le_succ_of_le q.os.drawn⟩,q.tape,q.output,q.size,q.block,q.cells,q.sz,q.df,q.fr,fun o ob ho=>(q.ob o ob ho).keep (bX.refl _) (fun _ _=>rfl),q.nd,q.sep,q.pins⟩
theorem QF{F:Fence}{n:Nat}{P:Program}{Q:Exit->Act->World->Prop}{a:Act}{w:World}{c:Code}(I:Nat->Act->World->Prop)(n₀:Nat)(h₀:I n₀ a w)
  (round:∀k a w,I k a w->c.wpIn F n P (Exit.then (fun a' w'=>∃n',n'<k/\I n' a' w') Q) a w):(Code.loop c).wpIn F n P Q a w:=by
 refine wpIn_loop (fun a w=>∃n,I n a w) (fun a w=>leastOf (fun n=>I n a w)) ⟨n₀,h₀⟩ ?_
 intro a w hI
 refine wpIn_mono (round _ a w (leastOf_spec hI).1) ?_
 intro e a' w' hq
 cases e with
 |normal =>
  obtain⟨n',ψ,hI'⟩:=hq;exact show(∃n,I n a' w')/\leastOf (fun n=>I n a' w')<leastOf (fun n=>I n a w) from⟨⟨n',hI'⟩,Nat.lt_of_le_of_lt ((leastOf_spec ⟨n',hI'⟩).2 n' hI') ψ⟩
 |exit id=>exact hq
 |goto l=>exact hq
 |ret=>exact hq
 |panic ch=>exact hq
 |outgrown=>exact hq
theorem lU{pins:List Nat}(hpins:∀o m,C.pin o=some m->o∈pins){σ n:State}{a:Act}{w:World}(h1:gI σ n pins)(h2:ax C σ a w):ax C n a w:=by
 unfold gI at h1;split at h1
 ·exact h1.elim
 ·rename_i ps hps
  exact Qu hpins hps h1 (Qy h2)
theorem ab4{ct:List AD->Option Post}{cps:List (Nat×List FC)}{Y:YJ}{R R':D2->Bool->Prop}(h:pe ct cps Y R)(hr:∀xs b,R xs b->R' xs b):pe ct cps Y R':=by
 unfold pe at h⊢;split at h
 ·split at h
  ·exact⟨h.1,h.2.1,hr _ _ h.2.2⟩
  ·exact h.elim
 ·exact h.elim
theorem ab5(c:Code):∀{C:Cx} {ro:Option Nat} {k:Kn} (hP:k.P=C.P) (hΓ:cY C.P k.Γ) (hN:k.N=C.N) (hpins:∀o m,C.pin o=some m->o∈k.pins) (hrd:k.rd=false->ro=none)
  (cur:Nat) (ann:Nat->Option Ann) (σ:State) (K:Exit->State->Prop),em k c cur ann σ K->∀a w,ax C σ a w->c.wpIn (eh ro) 0 C.P (Ic C K) a w:=by
 induction c with
 |skip=>intro C ro k hP hΓ hN hpins hrd cur ann σ K h a w hs;exact wpIn_skip ⟨σ,hs,h⟩
 |label l=>intro C ro k hP hΓ hN hpins hrd cur ann σ K h a w hs;exact wpIn_label ⟨σ,hs,h⟩
 |ret=>intro C ro k hP hΓ hN hpins hrd cur ann σ K h a w hs;exact wpIn_ret ⟨σ,hs,h⟩
 |exit id=>intro C ro k hP hΓ hN hpins hrd cur ann σ K h a w hs;exact wpIn_exit ⟨σ,hs,h⟩
 |region id ops draw =>
  intro C ro k hP hΓ hN hpins hrd cur ann σ K h a w hs
  simp only[em]at h;rw[hP,hN]at h;split at h
  ·obtain⟨es,σ',h1,h2⟩:=HR hΓ ops.toList 0 σ [] (fun j=>by simp) h
   refine wpIn_region ?_
   have:=aa0 (ro:=ro) (Q:=Ic C K) h1 a w hs (fun a w hs'=>⟨σ',hs',h2⟩)
   rw[DT,<-Dk];exact this
  ·split at h
   ·rename_i hmix
    obtain⟨es,σ',h1,h2⟩:=HR hΓ ops.toList 0 σ [] (fun j=>by simp) h
    rw[Ba]at h2;split at h2
    ·rename_i hord
     obtain⟨prs,p1,p2,p3,p4⟩:=aa1 h1;have hst:HU C ops σ prs es:=⟨p2,fun i o eff e hi he=>by have:=p4 i o eff e hi he;rwa[AJ]at this⟩
     refine wpIn_region_any hmix ?_
     refine aa2 hst p1 hord (fun a w hs'=>⟨σ',by rw[p3];exact hs',h2⟩) ops.size _ a _ (by simp) (fun S hS hk=>HY _ S hS fun k hk'=>(hk k hk').1) (fun j o _ hj=>?_) ?_
     ·exfalso
      by_cases hjs:j<ops.size<;>simp[Array.getD,hjs]at hj
     ·have:sub σ prs (fun k=>(Array.replicate ops.size false).getD k false) prs.length=σ:=by
       have hall:∀n,sub σ prs (fun k=>(Array.replicate ops.size false).getD k false) n=σ:=by
        intro n
        induction n with
        |zero=>rfl
        |succ n ih =>
         have hf:(Array.replicate ops.size false).getD n false=false:=by
          by_cases hn:n<ops.size<;>simp[Array.getD,hn]
         simp only[sub,ih,hf];split<;>rfl
       exact hall _
      rw[this];exact ab3 hs
    ·exact h2.elim
   ·exact h.elim
 |seq x y ihx ihy =>
  intro C ro k hP hΓ hN hpins hrd cur ann σ K h a w hs
  simp only[em]at h;split at h
  ·obtain⟨h1,h2⟩:=h
   refine wpIn_seq (wpIn_mono (ihx hP hΓ hN hpins hrd 0 ann σ _ h1 a w hs) ?_)
   rintro e a' w' ⟨σ',hs',hk⟩
   cases e with
   |normal =>
    obtain⟨x0,p1,p2⟩:=hk;exact ihy hP hΓ hN hpins hrd 0 _ _ K (h2 x0 p1) a' w' (lU hpins p2 hs')
   |_=>exact⟨σ',hs',hk⟩
  ·refine wpIn_seq (wpIn_mono (ihx hP hΓ hN hpins hrd 0 ann σ _ h a w hs) ?_)
   rintro e a' w' ⟨σ',hs',hk⟩
   cases e with
   |normal=>exact ihy hP hΓ hN hpins hrd 0 ann σ' K hk a' w' hs'
   |_=>exact⟨σ',hs',hk⟩
 |cond c x y ihx ihy =>
  intro C ro k hP hΓ hN hpins hrd cur ann σ K h a w hs
  simp only[em]at h;split at h
  ·rename_i t
   split at h
   ·rename_i b hb
    have hv:a.eval (.tmp t)=.bool b:=by
     obtain⟨wG,mu,hg,q⟩:=hs;exact q.fr t _ hb
    refine wpIn_cond_split hv (fun hbt=>?_) (fun hbf=>?_)
    ·subst hbt;exact ihx hP hΓ hN hpins hrd 0 ann σ K h a w hs
    ·subst hbf;exact ihy hP hΓ hN hpins hrd 0 ann σ K h a w hs
   ·exact h.elim
  ·exact h.elim
 |block id c ih =>
  intro C ro k hP hΓ hN hpins hrd cur ann σ K h a w hs
  simp only[em]at h;refine wpIn_block (wpIn_mono (ih hP hΓ hN hpins hrd id ann σ _ h a w hs) ?_)
  rintro e a' w' ⟨σ',hs',hk⟩
  cases e with
  |exit id' =>
   simp only at hk;simp only[Exit.inBlock];split at hk
   ·rename_i hid
    rw[AA (AY hid)];exact⟨σ',hs',hk⟩
   ·rename_i hid
    rw[AB (CC hid)];exact⟨σ',hs',hk⟩
  |_=>exact⟨σ',hs',hk⟩
 |loop c ih =>
  intro C ro k hP hΓ hN hpins hrd cur ann σ K h a w hs
  simp only[em]at h;split at h
  ·exact h.elim
  ·rename_i X inv pre m sub _
   obtain⟨⟨x0,hx0,hsub⟩,hround⟩:=h;refine QF (fun n a w=>∃x,pre x/\m x=n/\ax C (inv x) a w) (m x0) ⟨x0,hx0,rfl,lU hpins hsub hs⟩ ?_
   rintro n a w ⟨x,hx,rfl,hst⟩
   refine wpIn_mono (ih hP hΓ hN hpins hrd 0 _ (inv x) _ (hround x hx) a w hst) ?_
   rintro e a' w' ⟨σ',hs',hk⟩
   cases e with
   |normal =>
    obtain⟨x',h1,h2,h3⟩:=hk;exact⟨m x',h2,x',h1,rfl,lU hpins h3 hs'⟩
   |_=>exact⟨σ',hs',hk⟩
  ·exact h.elim
  ·rename_i M X inv pre m sub _
   obtain⟨hfst,hround⟩:=h;refine QF (fun n a w=>(n=M/\ax C σ a w)\/∃x,pre x/\m x=n/\ax C (inv x) a w) M (.inl ⟨rfl,hs⟩) ?_
   rintro n a w (⟨rfl,hst⟩|⟨x,hx,rfl,hst⟩)
   ·refine wpIn_mono (ih hP hΓ hN hpins hrd 0 _ σ _ hfst a w hst) ?_
    rintro e a' w' ⟨σ',hs',hk⟩
    cases e with
    |normal =>
     obtain⟨x',h1,h2,h3⟩:=hk;exact⟨m x',h2,.inr ⟨x',h1,rfl,lU hpins h3 hs'⟩⟩
    |_=>exact⟨σ',hs',hk⟩
   ·refine wpIn_mono (ih hP hΓ hN hpins hrd 0 _ (inv x) _ (hround x hx) a w hst) ?_
    rintro e a' w' ⟨σ',hs',hk⟩
    cases e with
    |normal =>
     obtain⟨x',h1,h2,h3⟩:=hk;exact⟨m x',h2,.inr ⟨x',h1,rfl,lU hpins h3 hs'⟩⟩
    |_=>exact⟨σ',hs',hk⟩
 |rangeFunc g ps assign body iha ihb =>
  intro C ro k hP hΓ hN hpins hrd cur ann σ K h a w hs
  simp only[em]at h;split at h
  ·exact h.elim
  ·rename_i hrdF
   have hro:=hrd hrdF
   subst hro;split at h
   ·rename_i e go ok bx fr hp hpx _
    split at h
    ·rename_i t pt hps
     split at h
     ·rename_i f caps hF
      split at h
      ·exact h.elim
      ·rename_i cps hcps
       split at h
       ·rename_i ct hct
        split at h
        ·exact h.elim
        ·rename_i hchk
         obtain⟨h1,h2,h3,h4⟩:=h;have hps':ps=#[pt]:=by apply A5;exact hps
         subst hps';rw[hN]at hchk;refine ab0 (e:=e) (go:=go) (ok:=ok) (hΓ f _ hct) hpins hchk h1 (lU hpins h2 hs) (fun pre x hok l C1 e1 e2 hp1 a w hs1=>?_) fun Y q1 q2 q3 q4=>?_
         ·have:=iha (C:=C1) (ro:=some l) (k:=k.rnd bx) (hP.trans e1.symm) (by rw[e1];exact hΓ) (hN.trans e2.symm) hp1 (fun h=>by cases h) 0 ann _ _ (h3 pre x hok) a w hs1
          rw[e1]at this;refine wpIn_mono this ?_
          rintro e3 a1 ed ⟨σ1,hs2,hK⟩
          cases e3 with
          |normal =>
           refine⟨σ1,hs2,fun C2 z1 z2 z3 a w hs3=>?_⟩
           have:=ihb (C:=C2) (ro:=some l) (k:=k.rnd bx) (hP.trans z1.symm) (by rw[z1];exact hΓ) (hN.trans z2.symm) z3 (fun h=>by cases h) 0 ann _ _ hK a w hs3
           rw[z1]at this;refine wpIn_mono this ?_
           rintro e4 a2 w2 ⟨σ2,hs4,hK2⟩
           cases e4 with
           |normal=>exact⟨hK2.1,lU z3 hK2.2 hs4⟩
           |ret=>exact⟨hK2.1,lU z3 hK2.2 hs4⟩
           |_=>exact hK2.elim
          |_=>exact hK.elim
         ·refine ab4 (h4 Y (q1.trans hP.symm) q2 q3 q4) fun xs b ⟨z1,z2⟩=>⟨fun hb a w hs=>⟨_,hs,z1 hb⟩,fun hb a w hs=>⟨_,hs,z2 hb⟩⟩
       ·exact h.elim
     ·exact h.elim
    ·exact h.elim
   ·exact h.elim
 |_=>intro C ro k hP hΓ hN hpins hrd cur ann σ K h;exact h.elim
theorem QG{ro:Option Nat}{k:Kn}(hP:k.P=C.P)(hΓ:cY C.P k.Γ)(hN:k.N=C.N)(hpins:∀o m,C.pin o=some m->o∈k.pins)(c:Code)(cur:Nat)(ann:Nat->Option Ann)(σ:State)(K:Exit->State->Prop)
  (h:em k c cur ann σ K)(a:Act)(w:World)(hs:ax C σ a w)(hrd:k.rd=false->ro=none:=by intro _;rfl):c.wpIn (eh ro) 0 C.P (Ic C K) a w:=ab5 c hP hΓ hN hpins hrd cur ann σ K h a w hs
end
end Go.Sx
end
