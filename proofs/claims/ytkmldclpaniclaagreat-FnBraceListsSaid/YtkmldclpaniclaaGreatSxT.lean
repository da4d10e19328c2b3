/- SxQ SxR SxS SxSr SxT -/
import Derived.Test.YtkmldclpaniclaaGreatSxP
set_option linter.unusedSimpArgs false
set_option linter.unusedVariables false
set_option linter.defProp false
section
namespace Go.Sx
open Go.RowKit
inductive KV where
 |f (x:Option SV)
 |h (x:Option (Option Ob))
def State.get(σ:State):Key->KV
 |.f t=>.f (σ.F t)
 |.h o=>.h (σ.H o)
theorem Rd.agree{α:Type}{σ σ':State}:∀(r:Rd α),(∀κ∈r.keys σ,σ'.get κ=σ.get κ)->r.run σ'=r.run σ
 |.ret x,_=>rfl
 |.fail,_=>rfl
 |.f t k,hh=>by
  have h1:σ'.F t=σ.F t:=by have:=hh (.f t) (by simp[Rd.keys]);simpa[State.get]using this
  simp only[Rd.run,h1];cases hF:σ.F t with
  |none=>rfl
  |some sv=>exact Rd.agree (k sv) fun κ hκ=>hh κ (by simp[Rd.keys,hF,hκ])
 |.h o k,hh=>by
  have h1:σ'.H o=σ.H o:=by have:=hh (.h o) (by simp[Rd.keys]);simpa[State.get]using this
  simp only[Rd.run,h1];cases hH:σ.H o with
  |none=>rfl
  |some x =>
   cases x with
   |none=>rfl
   |some ob=>exact Rd.agree (k ob) fun κ hκ=>hh κ (by simp[Rd.keys,hH,hκ])
 |.abs o k,hh=>by
  have h1:σ'.H o=σ.H o:=by have:=hh (.h o) (by simp[Rd.keys]);simpa[State.get]using this
  simp only[Rd.run,h1];cases hH:σ.H o with
  |none=>exact Rd.agree k fun κ hκ=>hh κ (by simp[Rd.keys,hκ])
  |some x=>rfl
theorem aD.ext{C:Cx}{σ σ':State}(h:∀κ,σ'.get κ=σ.get κ){a:Act}{w:World}(hs:aD C σ a w):aD C σ' a w:=by
 have hF:∀t,σ'.F t=σ.F t:=λt=>by have:=h (.f t);simpa[State.get]using this
 have hH:∀o,σ'.H o=σ.H o:=λo=>by have:=h (.h o);simpa[State.get]using this
 exact aD.eqv hF hH hs
def ab(b:Bool)(A B:Prop):Prop :=
 match b with
 |true=>A
 |false=>B
def Ta(p:Option Prop)(A:Prop):Prop :=
 match p with
 |none=>A
 |some q=>q/\A
structure Ent where
 rd:List Key
 wr:List Key
def sq(N:Nat)(o:Oper):Bool :=
 match o.dst with
 |none=>true
 |some d=>Nat.blt d N
def gd(ops:Array Oper)(σ:State)(o:Oper):Option Bool :=
 match o.guard with
 |none=>some true
 |some (j,want)=>match ops[j]? with
  |none=>none
  |some oj=>match oj.dst with
   |none=>none
   |some t=>match σ.F t with
    |some (.c (.bool b))=>match b,want with
     |true,true=>some true
     |true,false=>some false
     |false,true=>some false
     |false,false=>some true
    |some (.c .und)=>some false
    |_=>none
def kt(ops:Array Oper)(o:Oper):List Key :=
 match o.guard with
 |none=>[]
 |some (j,_)=>match ops[j]? with
  |none=>[]
  |some oj=>match oj.dst with
   |none=>[]
   |some t=>[.f t]
def jJ(o:Oper):List Key :=
 match o.dst with
 |none=>[]
 |some d=>[.f d]
def isSrc(i:Nat)(d:Option Nat):List Oper->Bool
 | []=>false
 |o::rest=>(match o.guard with
   |some (j,_)=>Nat.beq j i
   |none=>false)||(match o.op,d with
   |.pick (.tmp t) _ _,some d=>Nat.beq t d
   |_,_=>false)||isSrc i d rest
def ku(l:List (Nat×Option Ob)):List Key:=l.map λp=>.h p.1
def lA(P:Program)(Γ:FuncId->Option Ctr)(wr:Nat->Bool)(N:Nat)(ops:Array Oper):List Oper->Nat->State->List Ent->(State->List Ent->Prop)->Prop
 | [],_,σ,es,K=>K σ es
 |o::rest,i,σ,es,K =>
  match sq N o with
  |false=>False
  |true=>match gd ops σ o with
   |none=>False
   |some false=>lA P Γ wr N ops rest (i+1) (σ.app o.dst ⟨.c .und,[],none⟩) (es++[⟨kt ops o,jJ o⟩]) K
   |some true=>match(c6 P Γ wr o).run σ with
    |none=>False
    |some ⟨val,hp,owed⟩=>Ta owed (match isSrc i o.dst rest with
     |false=>lA P Γ wr N ops rest (i+1) (σ.app o.dst ⟨val,hp,none⟩) (es++[⟨kt ops o++(c6 P Γ wr o).keys σ,jJ o++ku hp⟩]) K
     |true=>match val with
      |.c (.bool b)=>ab b
        (lA P Γ wr N ops rest (i+1) (σ.app o.dst ⟨.c (.bool true),hp,none⟩) (es++[⟨kt ops o++(c6 P Γ wr o).keys σ,jJ o++ku hp⟩]) K)
        (lA P Γ wr N ops rest (i+1) (σ.app o.dst ⟨.c (.bool false),hp,none⟩) (es++[⟨kt ops o++(c6 P Γ wr o).keys σ,jJ o++ku hp⟩]) K)
      |_=>False)
def nX(C:Cx)(ops:Array Oper)(i:Nat)(o:Oper)(σ:State)(eff:Eff)(e:Ent):Prop :=
 (∀κ,κ ∉ e.wr->∀τ:State,(τ.app o.dst eff).get κ=τ.get κ)/\(∀κ∈e.wr,∀τ τ':State,(τ.app o.dst eff).get κ=(τ'.app o.dst eff).get κ)/\∀τ:State,(∀κ∈e.rd,τ.get κ=σ.get κ)->∀a w,aD C τ a w->∀ro Q,wpOpIn (eP ro) 0 C.P ops Q i (λa' w'=>aD C (τ.app o.dst eff) a' w') a w
inductive Run (C:Cx) (ops:Array Oper):List Oper->Nat->State->List Ent->State->Prop
 |nil {i:Nat} {σ:State}:Run C ops [] i σ [] σ
 |cons {o:Oper} {rest:List Oper} {i:Nat} {σ σ':State} {eff:Eff} {e:Ent} {es:List Ent} (h:nX C ops i o σ eff e) (t:Run C ops rest (i+1) (σ.app o.dst eff) es σ'):Run C ops (o::rest) i σ (e::es) σ'
section
variable {C:Cx}
def JR{σ:State}{dst:Option Nat}{eff:Eff}{κ:Key}:(σ.app dst eff).get κ=match κ with
  |.f t=>if dst=some t then .f (some eff.val)else σ.get (.f t)
  |.h o=>match lk eff.hp o with|some x=>.h (some x)|none=>σ.get (.h o):=by
 cases κ with
 |f t=>simp only[State.get,mf];split<;>rfl
 |h o =>
  simp only[State.get,km];cases lk eff.hp o<;>rfl
def Tb{α:Type}:∀{l:List (Nat×α)} {o:Nat} {x:α},lk l o=some x->o∈l.map (·.1)
 | [],o,x,h=>by simp[lk]at h
 |(k,v)::l,o,x,h=>by
  rw[bv]at h;split at h
  ·rename_i hk;simp[hk]
  ·have:=Tb h;simp at this⊢;exact .inr this
def Tc{α:Type}:∀{l:List (Nat×α)} {o:Nat},o∈l.map (·.1)->∃x,lk l o=some x
 | [],o,h=>by simp at h
 |(k,v)::l,o,h=>by
  rw[bv];by_cases hk:k=o
  ·exact⟨v,by simp[hk]⟩
  ·rw[AB hk]
   have h:o=k\/o∈l.map (·.1):=by simpa using h
   exact Tc (h.resolve_left (AN hk))
def Td{dst:Option Nat}{eff:Eff}{o:Oper}(hd:o.dst=dst)(rd:List Key) :
  (∀κ,κ ∉ (Ent.mk rd (jJ o++ku eff.hp)).wr->∀τ:State,(τ.app dst eff).get κ=τ.get κ) /\
  (∀κ∈(Ent.mk rd (jJ o++ku eff.hp)).wr,∀τ τ':State,(τ.app dst eff).get κ=(τ'.app dst eff).get κ):=by
 constructor
 ·intro κ hκ τ
  simp only[AH,not_or]at hκ;rw[JR];cases κ with
  |f t =>
   have:¬ dst=some t:=λhc=>hκ.1 (by simp[jJ,hd,hc])
   simp only[this,Al]
  |h x =>
   cases hx:lk eff.hp x with
   |none=>simp only[hx]
   |some y =>
    exfalso
    apply hκ.2
    have:=Tb hx
    simp only[ku,AJ]at this⊢;obtain⟨p,hp,rfl⟩:=this;exact⟨p,hp,rfl⟩
 ·intro κ hκ τ τ'
  rw[JR,JR];simp only[AH]at hκ;cases κ with
  |f t =>
   have:dst=some t:=by
    rcases hκ with h1|h1
    ·unfold jJ at h1
     rw[hd]at h1;cases dst with
     |none=>simp at h1
     |some d=>simp at h1;rw[h1]
    ·simp[ku]at h1
   simp only[this,AX]
  |h x =>
   have hx:x∈eff.hp.map (·.1):=by
    rcases hκ with h1|h1
    ·unfold jJ at h1
     split at h1<;>simp at h1
    ·simp only[ku,AJ]at h1⊢
     obtain⟨p,hp,h2⟩:=h1;cases h2;exact⟨p,hp,rfl⟩
   obtain⟨y,hy⟩:=Tc hx;simp only[hy]
def Te{N:Nat}{o:Oper}(h:sq N o=true):∀d,o.dst=some d->d<N:=by
 intro d hd
 unfold sq at h;rw[hd]at h
 simpa using h
def Tf{ops:Array Oper}{o:Oper}{σ:State}{b:Bool}(hg:gd ops σ o=some b){a:Act}{w:World}{mu:Nat->Img}(h:St C σ mu a w) :
  Region.wanted o (yielded ops a.tmps)=b:=by
 have yld:∀{j t:Nat} {oj:Oper} {v:Value},ops[j]?=some oj->oj.dst=some t->a.tmps.getD t undef=v->(∀c,v≠.bool c)->yielded ops a.tmps j=none:=fun {j t oj v} h3 h4 h1 h2=>by
  unfold yielded;rw[h3,DJ,h4,DJ];cases hx:a.tmps[t]? with
  |none=>rfl
  |some u =>
   have:u=v:=by rw[<-h1];simp[BJ,hx]
   subst this;cases u<;>first|rfl|exact absurd rfl (h2 _)
 have yldb:∀{j t:Nat} {oj:Oper} {c:Bool},ops[j]?=some oj->oj.dst=some t->a.tmps.getD t undef=.bool c->yielded ops a.tmps j=some c:=fun {j t oj c} h3 h4 h1=>by
  unfold yielded;rw[h3,DJ,h4,DJ];cases hx:a.tmps[t]? with
  |none=>simp[BJ,hx,undef]at h1
  |some u =>
   have:u=.bool c:=by rw[<-h1];simp[BJ,hx]
   subst this;rfl
 unfold gd at hg;unfold Region.wanted;split at hg
 ·rename_i hn
  cases hg;rw[hn]
 ·rename_i j want hjw
  rw[hjw];split at hg
  ·cases hg
  ·rename_i oj hoj
   split at hg
   ·cases hg
   ·rename_i t ht
    split at hg
    ·rename_i c hc
     have hv:a.tmps.getD t undef=.bool c:=h.fr t _ hc
     simp only[yldb hoj ht hv];cases c<;>cases want<;>cases hg<;>rfl
    ·rename_i hc
     cases hg;have hv:a.tmps.getD t undef=undef:=h.fr t _ hc
     simp only[yld hoj ht hv (λc hc=>by cases hc)]
     cases want<;>rfl
    ·cases hg
def Tg{ops:Array Oper}{o:Oper}{σ τ:State}(h:∀κ∈kt ops o,τ.get κ=σ.get κ):gd ops τ o=gd ops σ o:=by
 unfold gd;unfold kt at h;cases hg:o.guard with
 |none=>rfl
 |some p =>
  obtain⟨j,want⟩:=p;rw[hg]at h;simp only at h⊢;cases hj:ops[j]? with
  |none=>rfl
  |some oj =>
   rw[hj]at h;simp only at h⊢;cases hd:oj.dst with
   |none=>rfl
   |some t =>
    rw[hd]at h;have:τ.F t=σ.F t:=by have:=h (.f t) (by simp);simpa[State.get]using this
    simp only[this]
def az3{ops:Array Oper}{i:Nat}{o:Oper}{σ:State}(hi:ops[i]?=some o)(hd:sq C.N o=true)(hg:gd ops σ o=some false) :
  nX C ops i o σ ⟨.c .und,[],none⟩ ⟨kt ops o,jJ o⟩:=by
 have hk:=Td (eff:=⟨.c .und,[],none⟩) (dst:=o.dst) (o:=o) rfl (kt ops o)
 simp only[ku,List.map_nil,AV]at hk;refine⟨hk.1,hk.2,fun τ hτ a w hs ro Q=>?_⟩
 obtain⟨wG,mu,hgf,h⟩:=hs;have hw:=Tf (Tg hτ |>.trans hg) h
 unfold wpOpIn;rw[hi];simp only[hw];refine⟨λ_ _=>trivial,?_⟩
 exact aD.up hgf (St.ex (h.put_pure (Te hd) rfl rfl))
def JS{Γ:FuncId->Option Ctr}(hΓ:dj C.P Γ){wr:Nat->Bool}{ops:Array Oper}{i:Nat}{o:Oper}{σ:State}{eff eff':Eff}(hi:ops[i]?=some o)(hd:sq C.N o=true)(hg:gd ops σ o=some true)
  (hr:(c6 C.P Γ wr o).run σ=some eff)(hob:eff.obl)(hval:eff'.val=eff.val)(hhp:eff'.hp=eff.hp) :
  nX C ops i o σ eff' ⟨kt ops o++(c6 C.P Γ wr o).keys σ,jJ o++ku eff.hp⟩:=by
 have hk:=Td (eff:=eff') (dst:=o.dst) (o:=o) rfl (kt ops o++(c6 C.P Γ wr o).keys σ)
 rw[hhp]at hk;refine⟨hk.1,hk.2,fun τ hτ a w hs ro Q=>?_⟩
 obtain⟨wG,mu,hgf,h⟩:=hs;have hw:=Tf (Tg (fun κ hκ=>hτ κ (AH.2 (.inl hκ))) |>.trans hg) h
 have ω:=(Rd.agree (c6 C.P Γ wr o) fun κ hκ=>hτ κ (AH.2 (.inr hκ))).trans hr
 have happ:τ.app o.dst eff'=τ.app o.dst eff:=by simp[State.app,hval,hhp]
 unfold wpOpIn;rw[hi];simp only[hw,AX];rw[happ];exact Oper.wpIn_mono (λa w h=>aD.up hgf h) (az2 (C:=C.fz wG) hΓ ω hob h (Te hd) Q)
def az4{p:Option Prop}{A:Prop}(h:Ta p A){val:SV}{hp:List (Nat×Option Ob)}:(Eff.mk val hp p).obl/\A:=by
 cases p with
 |none=>exact⟨trivial,h⟩
 |some q=>exact h
def JT{Γ:FuncId->Option Ctr}(hΓ:dj C.P Γ){wr:Nat->Bool}{ops:Array Oper}{K:State->List Ent->Prop} :
  ∀(l:List Oper) (i:Nat) (σ:State) (es:List Ent),(∀j:Nat,l[j]?=ops[i+j]?)->lA C.P Γ wr C.N ops l i σ es K->∃es' σ',Run C ops l i σ es' σ'/\K σ' (es++es')
 | [],i,σ,es,_,h=>⟨[],σ,.nil,by rw[AV];exact h⟩
 |o::rest,i,σ,es,hl,h=>by
  have hi:ops[i]?=some o:=by have:=hl 0;simpa using this.symm
  have hl':∀j:Nat,rest[j]?=ops[i+1+j]?:=λj=>by have:=hl (j+1);rw[show i+1+j=i+(j+1) by omega,<-this];simp
  have go:∀(eff:Eff) (e:Ent),nX C ops i o σ eff e->lA C.P Γ wr C.N ops rest (i+1) (σ.app o.dst eff) (es++[e]) K->∃es' σ',Run C ops (o::rest) i σ es' σ'/\K σ' (es++es'):=λeff e h1 h2=>by
   obtain⟨es',σ',h3,h4⟩:=JT hΓ rest (i+1) _ _ hl' h2;exact⟨e::es',σ',.cons h1 h3,by simpa using h4⟩
  unfold lA at h;split at h
  ·exact h.elim
  ·rename_i hd
   split at h
   ·exact h.elim
   ·rename_i hg
    exact go _ _ (az3 hi hd hg) h
   ·rename_i hg
    split at h
    ·exact h.elim
    ·rename_i val hp owed hr
     obtain⟨hob,h2⟩:=az4 (val:=val) (hp:=hp) h;clear h;split at h2
     ·exact go _ _ (JS hΓ hi hd hg hr hob rfl rfl) h2
     ·split at h2
      ·rename_i b
       cases b with
       |true=>exact go _ _ (JS hΓ hi hd hg hr hob rfl rfl) h2
       |false=>exact go _ _ (JS hΓ hi hd hg hr hob rfl rfl) h2
      ·exact h2.elim
def az5{P:Program}{ops:Array Oper}{Q:Exit->Act->World->Prop}{i:Nat}{rest:List Nat}{a:Act}{w:World}{K:Act->World->Prop}{ro:Option Nat}(h:wpOpIn (eP ro) 0 P ops Q i K a w)(hk:∀a w,K a w->wpOpsIn (eP ro) 0 P ops Q rest a w) :
  wpOpsIn (eP ro) 0 P ops Q (i::rest) a w:=by
 rw[wpOpsIn_cons];exact wpOpIn_mono hk h
def az6{ro:Option Nat}{ops:Array Oper}{Q:Exit->Act->World->Prop}:∀{l:List Oper} {i:Nat} {σ σ':State} {es:List Ent},Run C ops l i σ es σ'->∀a w,aD C σ a w->(∀a w,aD C σ' a w->Q .normal a w) ->
  wpOpsIn (eP ro) 0 C.P ops Q (List.range' i l.length) a w:=by
 intro l i σ σ' es h
 induction h with
 |nil=>intro a w hs hq;exact hq a w hs
 |cons h t ih =>
  intro a w hs hq
  rw[AR,DU];exact az5 (h.2.2 _ (λ_ _=>rfl) a w hs ro Q) λa w hs'=>ih a w hs' hq
end
end Go.Sx
end
section
namespace Go.Sx
open Go.RowKit
def lB(o:Oper):List Nat:=(o.after.toList.filter λe=>Region.binds .any e).map (·.on)
def yg(acc:List Nat):List Nat->Nat->Nat
 | [],m=>m
 |k::ks,m=>yg acc ks ((m ||| (1 <<< k)) ||| acc.getD k 0)
def gX:List Oper->List Nat->List Nat
 | [],acc=>acc
 |o::l,acc=>gX l (acc++[yg acc (lB o) 0])
def pY:List Oper->Nat->Bool
 | [],_=>true
 |o::l,i=>(lB o).all (λk=>Nat.blt k i)&&pY l (i+1)
def hasKey(κ:Key):List Key->Bool
 | []=>false
 |x::l=>Key.eq x κ||hasKey κ l
def meet:List Key->List Key->Bool
 | [],_=>false
 | κ::l,l'=>hasKey κ l'||meet l l'
def nY(e e':Ent):Bool:=meet e.wr e'.rd||meet e.wr e'.wr||meet e.rd e'.wr
def yh(e:Ent)(m:Nat):List Ent->Nat->Bool
 | [],_=>true
 |e'::l,i=>(!(nY e' e)||m.testBit i)&&yh e m l (i+1)
def sr:List Ent->List Ent->List Nat->Bool
 |_,[],_=>true
 |_,_::_,[]=>false
 |prev,e::es,m::ms=>yh e m prev 0&&sr (prev++[e]) es ms
def JU(ops:List Oper)(es:List Ent):Bool:=pY ops 0&&sr [] es (gX ops [])
theorem Key.eq_self(a:Key):Key.eq a a=true:=by cases a<;>simp[Key.eq]
def Th{κ:Key}:∀{l:List Key},κ∈l->hasKey κ l=true
 | [],h=>by simp at h
 |x::l,h=>by
  simp only[hasKey,BK];rcases AG.1 h with rfl|h
  ·exact .inl (Key.eq_self _)
  ·exact .inr (Th h)
def yi{κ:Key}:∀{l l':List Key},κ∈l->κ∈l'->meet l l'=true
 | [],_,h,_=>by simp at h
 |x::l,l',h,h'=>by
  simp only[meet,BK];rcases AG.1 h with rfl|h
  ·exact .inl (Th h')
  ·exact .inr (yi h h')
def yj:∀{l:List Oper} {i:Nat},pY l i=true->∀(j:Nat) (o:Oper),l[j]?=some o->∀k∈lB o,k<i+j
 | [],_,_,j,o,h=>by simp at h
 |o'::l,i,h,j,o,hj=>by
  simp only[pY,AO]at h;cases j with
  |zero =>
   simp at hj;subst hj
   intro k hk
   have:=Ac.1 h.1 k hk
   simpa using this
  |succ j =>
   intro k hk
   have:=yj h.2 j o (by simpa using hj) k hk
   omega
def Ti{acc:List Nat}{i:Nat}:∀{ks:List Nat} {m:Nat},(yg acc ks m).testBit i=true->m.testBit i=true\/∃k∈ks,k=i\/(acc.getD k 0).testBit i=true
 | [],m,h=>.inl h
 |k::ks,m,h=>by
  have h:(yg acc ks ((m ||| (1 <<< k)) ||| acc.getD k 0)).testBit i=true:=h
  rcases Ti (ks:=ks) h with h1|⟨k',h1,h2⟩
  ·simp only[Nat.testBit_or,BK]at h1
   rcases h1 with(h1|h1)|h1
   ·exact .inl h1
   ·rw[Nat.one_shiftLeft,Nat.testBit_two_pow]at h1
    exact .inr ⟨k,by simp,.inl (by simpa using h1)⟩
   ·exact .inr ⟨k,by simp,.inr h1⟩
  ·exact .inr ⟨k',by simp[h1],h2⟩
def JV:∀{l:List Oper} {acc:List Nat} {k:Nat},k<acc.length->(gX l acc)[k]?=acc[k]?
 | [],_,_,_=>rfl
 |o::l,acc,k,h=>by
  simp only[gX];rw[JV (by simp;omega),As h]
def Tj:∀{l:List Oper} {acc:List Nat} {i:Nat},acc.length=i->pY l i=true->∀(j:Nat) (o:Oper),l[j]?=some o->∀x,((gX l acc).getD (i+j) 0).testBit x=true ->
  ∃k∈lB o,k=x\/((gX l acc).getD k 0).testBit x=true
 | [],_,_,_,_,j,o,h=>by simp at h
 |o'::l,acc,i,hl,he,j,o,hj=>by
  intro x hx
  have he2:=he
  simp only[pY,AO]at he;cases j with
  |zero =>
   simp at hj;subst hj
   simp only[gX,Bg,AM]at hx⊢;rw[JV (by simp;omega),<-hl,Ay (AE _)]at hx
   simp at hx
   rcases Ti hx with h1|⟨k,h1,h2⟩
   ·simp at h1
   ·refine⟨k,h1,h2.imp id λh3=>?_⟩
    have hk:k<acc.length:=by
     have:=Ac.1 he.1 k h1
     rw[hl];simpa using this
    rw[JV (by simp;omega),As hk]
    simpa[AM]using h3
  |succ j =>
   simp only[gX]at hx⊢;exact Tj (i:=i+1) (by simp[hl]) he.2 j o (by simpa using hj) x (by rw[show i+1+j=i+(j+1) by omega];exact hx)
def Tk{e:Ent}{m:Nat}:∀{l:List Ent} {i:Nat},yh e m l i=true->∀(x:Nat) (e':Ent),l[x]?=some e'->nY e' e=true->m.testBit (i+x)=true
 | [],_,_,x,e',h=>by simp at h
 |e0::l,i,h,x,e',hx=>by
  intro hc
  simp only[yh,AO,BK]at h;cases x with
  |zero =>
   simp at hx;subst hx
   rcases h.1 with h1|h1
   ·rw[hc]at h1;cases h1
   ·simpa using h1
  |succ x =>
   rw[show i+(x+1)=i+1+x by omega]
   exact Tk h.2 x e' (by simpa using hx) hc
def Tl:∀{es prev:List Ent} {ms:List Nat},sr prev es ms=true->∀(j:Nat) (e:Ent),es[j]?=some e->∀(x:Nat) (e':Ent),x<prev.length+j->(prev++es)[x]?=some e'->nY e' e=true->(ms.getD j 0).testBit x=true
 | [],_,_,_,j,e,h=>by simp at h
 |_::_,_,[],h,_,_,_=>by simp[sr]at h
 |e0::es,prev,m::ms,h,j,e,hj=>by
  intro x e' hx he hc
  simp only[sr,AO]at h;cases j with
  |zero =>
   simp at hj;subst hj
   have hx:x<prev.length:=by omega
   rw[As hx]at he;have:=Tk h.1 x e' he hc
   simpa using this
  |succ j =>
   have:=Tl h.2 j e (by simpa using hj) x e' (by simp;omega) (by simpa using he) hc
   simpa using this
def sub(σ0:State)(prs:List (Oper×Eff))(L:Nat->Bool):Nat->State
 |0=>σ0
 |k+1=>match prs[k]? with
  |some (o,eff)=>match L k with
   |true=>(sub σ0 prs L k).app o.dst eff
   |false=>sub σ0 prs L k
  |none=>sub σ0 prs L k
section
variable {C:Cx} {ops:Array Oper} {σ0:State} {prs:List (Oper×Eff)} {es:List Ent}
def JW(C:Cx)(ops:Array Oper)(σ0:State)(prs:List (Oper×Eff))(es:List Ent):Prop :=
 es.length=prs.length/\∀(i:Nat) (o:Oper) (eff:Eff) (e:Ent),prs[i]?=some (o,eff)->es[i]?=some e->nX C ops i o (sub σ0 prs (λ_=>true) i) eff e
def JX{o:Oper}{eff:Eff}{σ:State}{prs:List (Oper×Eff)}:∀k,sub σ ((o,eff)::prs) (λ_=>true) (k+1)=sub (σ.app o.dst eff) prs (λ_=>true) k
 |0=>rfl
 |k+1=>by
  have:=JX (o:=o) (eff:=eff) (σ:=σ) (prs:=prs) k
  simp only[sub,Bq]at this⊢;rw[this]
def az7{l:List Oper}{i:Nat}{σ σ':State}{es:List Ent}(h:Run C ops l i σ es σ') :
  ∃prs:List (Oper×Eff),prs.map (·.1)=l/\es.length=prs.length/\σ'=sub σ prs (λ_=>true) prs.length /\
   ∀(j:Nat) (o:Oper) (eff:Eff) (e:Ent),prs[j]?=some (o,eff)->es[j]?=some e->nX C ops (i+j) o (sub σ prs (λ_=>true) j) eff e:=by
 induction h with
 |nil=>exact⟨[],rfl,rfl,rfl,λj o eff e h=>by simp at h⟩
 | @cons o rest i σ σ' eff e es h t ih =>
  obtain⟨prs,h1,h2,h3,h4⟩:=ih;refine⟨(o,eff)::prs,by simp[h1],by simp[h2],?_,λj o' eff' e' hj he=>?_⟩
  ·rw[h3,AR,JX]
  ·cases j with
   |zero=>simp at hj he;obtain⟨rfl,rfl⟩:=hj;subst he;exact h
   |succ j =>
    rw[JX];have:=h4 j o' eff' e' (by simpa using hj) (by simpa using he)
    rwa[show i+(j+1)=i+1+j by omega]
variable (hst:JW C ops σ0 prs es)
include hst
def JY{i:Nat}{o:Oper}{eff:Eff}(h:prs[i]?=some (o,eff)):∃e,es[i]?=some e/\nX C ops i o (sub σ0 prs (λ_=>true) i) eff e:=by
 have ψ:i<es.length:=by rw[hst.1];exact(AL.1 h).1
 exact⟨es[i],AF ψ,hst.2 i o eff _ h (AF ψ)⟩
def JZ{L L':Nat->Bool}{κ:Key}:∀(k:Nat),(∀(j:Nat) (e:Ent),j<k->es[j]?=some e->κ∈e.wr->L j=L' j)->(sub σ0 prs L k).get κ=(sub σ0 prs L' k).get κ
 |0,_=>rfl
 |k+1,h=>by
  have ih:=JZ k λj e hj=>h j e (by omega)
  simp only[sub];cases hp:prs[k]? with
  |none=>exact ih
  |some p =>
   obtain⟨o,eff⟩:=p;obtain⟨e,he,hs⟩:=JY hst hp;by_cases hκ:κ∈e.wr
   ·have:=h k e (by omega) he hκ
    simp only[this];cases L' k with
    |true=>exact hs.2.1 κ hκ _ _
    |false=>exact ih
   ·cases hL:L k<;>cases hL':L' k<;>simp only[hs.1 κ hκ]<;>exact ih
omit hst in
def Tm{L:Nat->Bool}{i:Nat}(h:∀j,i<=j->L j=false):∀k,i<=k->sub σ0 prs L k=sub σ0 prs L i
 | 0, hk => by have:i=0:=by omega
               subst this;rfl
 |k+1,hk=>by
  by_cases hik:i=k+1
  ·subst hik;rfl
  ·have ih:=Tm h k (by omega)
   simp only[sub];cases prs[k]? with
   |none=>exact ih
   |some p=>simp only[h k (by omega)];exact ih
omit hst in
def yk{L L':Nat->Bool}:∀k,(∀j,j<k->L j=L' j)->sub σ0 prs L k=sub σ0 prs L' k
 |0,_=>rfl
 |k+1,h=>by
  have ih:=yk k λj hj=>h j (by omega)
  simp only[sub,ih,h k (by omega)]
def Tn{L:Nat->Bool}{κ:Key}{i:Nat}(h:∀(j:Nat) (e:Ent),i<=j->es[j]?=some e->κ∈e.wr->L j=false):∀k,i<=k->(sub σ0 prs L k).get κ=(sub σ0 prs L i).get κ
 | 0, hk => by have:i=0:=by omega
               subst this;rfl
 |k+1,hk=>by
  by_cases hik:i=k+1
  ·subst hik;rfl
  ·have ih:=Tn h k (by omega)
   simp only[sub];cases hp:prs[k]? with
   |none=>exact ih
   |some p =>
    obtain⟨o,eff⟩:=p;obtain⟨e,he,hs⟩:=JY hst hp;by_cases hκ:κ∈e.wr
    ·simp only[h k e (by omega) he hκ];exact ih
    ·cases hL:L k<;>simp only[hs.1 κ hκ]<;>exact ih
end
def J0:∀(n:Nat) (S:List Nat),S.Nodup->(∀k∈S,k<n)->S.length<=n
 |0,S,_,h=>by
  cases S with
  |nil=>simp
  |cons x S=>have:=h x (by simp);omega
 |n+1,S,hn,h=>by
  by_cases hx:n∈S
  ·have:=J0 n (S.erase n) (hn.erase n) λk hk=>by
    have h1:=(hn.mem_erase_iff).1 hk
    have:=h k h1.2
    have:=h1.1
    omega
   rw[DC hx]at this;omega
  ·have:=J0 n S hn λk hk=>by
    have:=h k hk
    have:k≠n:=λhc=>hx (hc ▸ hk)
    omega
   omega
section
variable {C:Cx} {ops:Array Oper} {σ0:State} {prs:List (Oper×Eff)} {es:List Ent}
def az8{ro:Option Nat}(hst:JW C ops σ0 prs es)(hl:prs.map (·.1)=ops.toList)(hok:JU ops.toList es=true){Q:Exit->Act->World->Prop}
  (hq:∀a w,aD C (sub σ0 prs (λ_=>true) prs.length) a w->Q .normal a w) :
  ∀(fuel:Nat) (listed:Array Bool) (a:Act) (w:World),listed.size=ops.size ->
   (∀S:List Nat,S.Nodup->(∀k∈S,k<ops.size/\listed.getD k true=false)->S.length<=fuel) ->
   (∀(j:Nat) (o:Oper),ops[j]?=some o->listed.getD j false=true->∀k∈lB o,listed.getD k false=true) ->
   aD C (sub σ0 prs (λk=>listed.getD k false) prs.length) a w->wpAnyIn (eP ro) 0 C.P .any ops Q fuel listed a w:=by
 have hlen:prs.length=ops.size:=by have:=BC List.length hl;simpa using this
 simp only[JU,AO]at hok;obtain⟨helt,hchk⟩:=hok;have hop:∀(i:Nat) (o:Oper),ops[i]?=some o->∃eff,prs[i]?=some (o,eff):=λi o hi=>by
  have h1:(prs.map (·.1))[i]?=some o:=by rw[hl];simpa using hi
  rw[Ak]at h1;cases hp:prs[i]? with
  |none=>simp[hp]at h1
  |some p=>simp[hp]at h1;exact⟨p.2,by rw[<-h1]⟩
 have hpo:∀(i:Nat) (o:Oper) (eff:Eff),prs[i]?=some (o,eff)->ops[i]?=some o:=λi o eff hi=>by
  have h1:(prs.map (·.1))[i]?=some o:=by simp[hi]
  rw[hl]at h1;simpa using h1
 have hdep:∀(j:Nat) (o:Oper),ops[j]?=some o->∀x,((gX ops.toList []).getD j 0).testBit x=true->∃k∈lB o,k=x\/((gX ops.toList []).getD k 0).testBit x=true:=λj o hj x hx=>by
  have:=Tj (acc:=[]) (i:=0) rfl helt j o (by simpa using hj) x (by rw[AI];exact hx)
  exact this
 have hcon:∀(i j:Nat) (e e':Ent),i<j->es[i]?=some e->es[j]?=some e'->nY e e'=true->((gX ops.toList []).getD j 0).testBit i=true:=λi j e e' hij hi hj hc =>
  Tl hchk j e' hj i e (by simpa using hij) (by simpa using hi) hc
 have hgd:∀(listed:Array Bool),listed.size=ops.size->∀k,k<ops.size->(listed.getD k false=true↔listed.getD k true=true):=λlisted hs k hk=>by
  have:k<listed.size:=by omega
  simp[Array.getD,this]
 have hclosed:∀(listed:Array Bool),(∀(j:Nat) (o:Oper),ops[j]?=some o->listed.getD j false=true->∀k∈lB o,listed.getD k false=true) ->
   ∀(n j:Nat) (o:Oper),j<n->ops[j]?=some o->listed.getD j false=true->∀x,((gX ops.toList []).getD j 0).testBit x=true->listed.getD x false=true:=by
  intro listed hcl n
  induction n with
  |zero=>intro j o hj;omega
  |succ n ih =>
   intro j o hj ho hlj x hx
   obtain⟨k,hk,h1⟩:=hdep j o ho x hx;have hkl:=hcl j o ho hlj k hk
   rcases h1 with rfl|h1
   ·exact hkl
   ·have hkj:k<j:=by have:=yj helt j o (by simpa using ho) k hk;omega
    have hko:∃ok,ops[k]?=some ok:=by
     have:k<ops.size:=by have:=(BB.1 ho).1;omega
     exact⟨ops[k],CF this⟩
    obtain⟨ok,hko⟩:=hko;exact ih k ok (by omega) hko hkl x h1
 intro fuel
 induction fuel with
 |zero =>
  intro listed a w hs hcnt hcl hse
  have hall:∀k,k<ops.size->listed.getD k false=true:=λk hk=>by
   refine Ax λhc=>?_
   have:=hcnt [k] (by simp) (λk' hk'=>by
    simp at hk';subst hk'
    refine⟨hk,?_⟩
    have:=hgd listed hs k' hk
    cases hx:listed.getD k' true with
    |false=>rfl
    |true=>exact absurd (this.2 hx) hc)
   simp at this
  refine⟨?_,hq a w ?_⟩
  ·unfold Region.ready
   rw[List.filter_eq_nil_iff];intro i hi
   have hi':i<ops.size:=by simpa using hi
   simp[(hgd listed hs i hi').1 (hall i hi')]
  ·rw[yk prs.length (L':=λk=>listed.getD k false) λj hj=>(hall j (by omega)).symm]
   exact hse
 |succ fuel ih =>
  intro listed a w hs hcnt hcl hse
  refine⟨λhready=>hq a w ?_,λi hi=>?_⟩
  ·-- nothing is ready: all are listed
   have hall:∀n k,k<n->k<ops.size->listed.getD k false=true:=by
    intro n
    induction n with
    |zero=>intro k hk;omega
    |succ n ihn =>
     intro k hk hko
     refine Ax λhc=>?_
     have hmem:k∈Region.ready .any ops listed:=by
      unfold Region.ready;rw[Bc];refine⟨by simpa using hko,?_⟩
      have h1:listed.getD k true=false:=by
       cases hx:listed.getD k true with
       |false=>rfl
       |true=>exact absurd ((hgd listed hs k hko).2 hx) hc
      rw[h1];have h2:ops[k]?=some ops[k]:=CF hko
      rw[h2];simp only[Dd,Cm,CE,Az,D5];intro e he
      cases hb:Region.binds .any e with
      |false=>rfl
      |true =>
       have hon:e.on∈lB ops[k]:=AJ.2 ⟨e,Bc.2 ⟨by simpa using he,hb⟩,rfl⟩
       have ψ:e.on<k:=by have:=yj helt k ops[k] (by simp) e.on hon;omega
       simpa using ihn e.on (by omega) (by omega)
     rw[hready]at hmem;simp at hmem
   rw[yk prs.length (L':=λk=>listed.getD k false) λj hj=>(hall (j+1) j (by omega) (by omega)).symm]
   exact hse
  ·-- operation i is ready
   unfold Region.ready at hi;rw[Bc]at hi;obtain⟨hir,hi2⟩:=hi;have hio:i<ops.size:=by simpa using hir
   have ho:ops[i]?=some ops[i]:=CF hio
   simp only[AO,CY,ho,Cm,CE]at hi2;obtain⟨hil,hiall⟩:=hi2;have hil':listed.getD i false=false:=by
    cases hx:listed.getD i false with
    |false=>rfl
    |true=>rw[(hgd listed hs i hio).1 hx]at hil;cases hil
   have hedge:∀k∈lB ops[i],listed.getD k false=true:=λk hk=>by
    obtain⟨e,he,rfl⟩:=AJ.1 hk;obtain⟨he1,he2⟩:=Bc.1 he;have:=D5.1 hiall e (by simpa using he1)
    rw[he2]at this
    simpa using this
   have hanc:∀x,((gX ops.toList []).getD i 0).testBit x=true->listed.getD x false=true:=λx hx=>by
    obtain⟨k,hk,h1⟩:=hdep i _ ho x hx;rcases h1 with rfl|h1
    ·exact hedge k hk
    ·have hki:k<i:=by have:=yj helt i ops[i] (by simp) k hk;omega
     have hko:ops[k]?=some (ops[k]'(by omega)):=CF (by omega)
     exact hclosed listed hcl (k+1) k _ (by omega) hko (hedge k hk) x h1
   have hafter:∀(j:Nat),i<j->((gX ops.toList []).getD j 0).testBit i=true->j<ops.size->listed.getD j false=false:=λj hij hb hj=>by
    cases hx:listed.getD j false with
    |false=>rfl
    |true =>
     have hjo:ops[j]?=some ops[j]:=CF hj
     have:=hclosed listed hcl (j+1) j _ (by omega) hjo hx i hb
     rw[hil']at this;cases this
   obtain⟨eff,hpi⟩:=hop i _ ho;obtain⟨e,hei,hstep⟩:=JY hst hpi;have hesz:∀(j:Nat) (e':Ent),es[j]?=some e'->j<ops.size:=λj e' hj=>by
    have:=(AL.1 hj).1
    rw[hst.1]at this;omega
   have hread:∀κ∈e.rd,(sub σ0 prs (λk=>listed.getD k false) prs.length).get κ=(sub σ0 prs (λ_=>true) i).get κ:=fun κ hκ=>by
    have h1:(sub σ0 prs (λk=>listed.getD k false) prs.length).get κ=(sub σ0 prs (λk=>decide (k<i)) prs.length).get κ:=JZ hst _ λj e' hj he' hκ'=>by
     by_cases hji:j<i
     ·have:=hanc j (hcon j i e' e hji he' hei (by simp only[nY,yi hκ' hκ];rfl))
      rw[this];simp[hji]
     ·by_cases hij:j=i
      ·subst hij;rw[hil'];simp
      ·have hb:=hcon i j e e' (by omega) hei he' (by simp only[nY,yi hκ hκ'];simp)
       rw[hafter j (by omega) hb (hesz j e' he')]
       simp;omega
    rw[h1,Tm (i:=i) (λj hj=>by simp;omega) prs.length (by have:=(AL.1 hpi).1;omega),yk i (L':=λ_=>true) λj hj=>by simp[hj]]
   have hwp:=hstep.2.2 _ hread a w hse ro Q
   refine wpOpIn_mono (λa' w' hse'=>?_) hwp
   have hset:∀k,(listed.setIfInBounds i true).getD k false=(listed.getD k false||decide (k=i)):=λk=>by
    by_cases hk:k=i
    ·subst hk
     have:k<listed.size:=by omega
     simp[Array.getD,this]
    ·have hne:i≠k:=λh=>hk h.symm
     simp[BJ,CJ hne,hk]
   refine ih (listed.setIfInBounds i true) a' w' (by simpa using hs) (λS hS hSk=>?_) (λj o hj hlj k hk=>?_) (hse'.ext fun κ=>?_)
   ·have hiS:i ∉ S:=λhc=>by
     have:=(hSk i hc).2
     have ψ:i<listed.size:=by omega
     simp[Array.getD,ψ]at this
    have:=hcnt (i::S) (Aa.2 ⟨hiS,hS⟩) (λk hk=>by
     rcases AG.1 hk with rfl|hk
     ·exact⟨hio,hil⟩
     ·refine⟨(hSk k hk).1,?_⟩
      have h1:=(hSk k hk).2
      have hne:i≠k:=λhc=>hiS (hc ▸ hk)
      simpa[BJ,CJ hne]using h1)
    simp at this;omega
   ·rw[hset]at hlj⊢
    simp only[BK,Ai]at hlj⊢;rcases hlj with h1|h1
    ·exact .inl (hcl j o hj h1 k hk)
    ·subst h1
     have:o=ops[j]:=BF (hj.symm.trans ho)
     subst this;exact .inl (hedge k hk)
   ·-- the states read alike
    have hfun:(λk=>(listed.setIfInBounds i true).getD k false)=λk=>(listed.getD k false||decide (k=i)):=funext hset
    rw[hfun];have hile:i<prs.length:=(AL.1 hpi).1
    by_cases hκ:κ∈e.wr
    ·rw[Tn hst (i:=i+1) (λj e' hj he' hκ'=>by
      have hb:=hcon i j e e' (by omega) hei he' (by simp only[nY,yi hκ hκ'];simp)
      rw[hafter j (by omega) hb (hesz j e' he')]
      simp;omega) prs.length (by omega)]
     simp only[sub,hpi];simp only[hil',decide_true,Bool.or_true];exact hstep.2.1 κ hκ _ _
    ·rw[hstep.1 κ hκ]
     refine JZ hst _ λj e' hj he' hκ'=>?_
     have hne:j≠i:=λhc=>by
      subst hc;have:e'=e:=BF (he'.symm.trans hei)
      subst this;exact hκ hκ'
     simp[hne]
end
end Go.Sx
end
section
namespace Go.Sx
open Go.RowKit
abbrev Ren:=List (Nat×Option Nat)
def gh:List Prop->Prop
 | []=>True
 |p::l=>match l with
  | []=>p
  |q::r=>p/\gh (q::r)
def nZ{p:Prop}{l:List Prop}:gh (p::l)↔p/\gh l:=by
 cases l<;>simp[gh]
def ym{l l':List Prop}:gh (l++l')↔gh l/\gh l':=by
 induction l with
 |nil=>simp[gh]
 |cons p l ih=>rw[Bk,nZ,nZ,ih,and_assoc]
def fT(ρ:Ren)(new:Nat)(old:Option Nat):Option Ren :=
 match lk ρ new with
 |none=>some ((new,old)::ρ)
 |some x=>match x,old with
  |some a,some b=>match Nat.beq a b with
   |true=>some ρ
   |false=>none
  |none,none=>some ρ
  |_,_=>none
def fH:FC->FC->Option Prop
 |.int k n,.int k' n'=>if k=k' then some (n=n')else none
 |.bool b,.bool b'=>some (b=b')
 |.str l,.str l'=>some (l=l')
 |.ints k l,.ints k' l'=>if k=k' then some (l=l')else none
 |.bools l,.bools l'=>some (l=l')
 |.rows k l,.rows k' l'=>if k=k' then some (l=l')else none
 |.r3 k l,.r3 k' l'=>if k=k' then some (l=l')else none
 |.r4 k l,.r4 k' l'=>if k=k' then some (l=l')else none
 |.p3 k l,.p3 k' l'=>if k=k' then some (l=l')else none
 |_,_=>none
def yn(σ:State)(o:Nat):Option Nat :=
 match σ.H o with
 |some (some ob)=>ob.len?
 |_=>none
def my(σ:State)(o v:Nat):Bool :=
 match σ.H o with
 |some (some ob)=>Nat.beq ob.shp.ver v
 |_=>false
def yq(σ:State)(ρ:Ren)(c n:SC):Option (Ren×List Prop) :=
 match n with
 |.any=>some (ρ,[])
 |.und=>match c with
  |.und=>some (ρ,[])
  |_=>none
 |.int k' x'=>match c with
  |.int k x=>if k=k' then some (ρ,[x=x'])else none
  |_=>none
 |.bool x'=>match c with
  |.bool x=>some (ρ,[x=x'])
  |_=>none
 |.str x'=>match c with
  |.str x=>some (ρ,[x=x'])
  |_=>none
 |.nil=>match c with
  |.nil=>some (ρ,[])
  |_=>none
 |.own o'=>match c with
  |.own o=>match fT ρ o' (some o)with
   |some ρ'=>some (ρ',[])
   |none=>none
  |.nil=>match fT ρ o' none with
   |some ρ'=>some (ρ',[])
   |none=>none
  |_=>none
 |.pre o' x'=>match c with
  |.pre o x=>match fT ρ o' (some o)with
   |some ρ'=>some (ρ',[x=x'])
   |none=>none
  |.own o=>match yn σ o with
   |some L=>match fT ρ o' (some o)with
    |some ρ'=>some (ρ',[L=x'])
    |none=>none
   |none=>none
  |.nil=>match fT ρ o' none with
   |some ρ'=>some (ρ',[x'=0])
   |none=>none
  |_=>none
 |.sub o' y' x'=>match c with
  |.sub o y x=>match fT ρ o' (some o)with
   |some ρ'=>some (ρ',[y=y',x=x'])
   |none=>none
  |.pre o x=>match fT ρ o' (some o)with
   |some ρ'=>some (ρ',[0=y',x=x'])
   |none=>none
  |.own o=>match yn σ o with
   |some L=>match fT ρ o' (some o)with
    |some ρ'=>some (ρ',[0=y',L=x'])
    |none=>none
   |none=>none
  |_=>none
 |.ptr o' x'=>match c with
  |.ptr o x=>match fT ρ o' (some o)with
   |some ρ'=>match Nat.beq x x' with
    |true=>some (ρ',[])
    |false=>none
   |none=>none
  |_=>none
 |.row o' v' x'=>match c with
  |.row o v x=>match Nat.beq v' 0&&my σ o v with
   |true=>match fT ρ o' (some o)with
    |some ρ'=>some (ρ',[x=x'])
    |none=>none
   |false=>none
  |_=>none
 |.ro d'=>match c with
  |.ro d=>match fH d d' with
   |some p=>some (ρ,[p])
   |none=>none
  |.own o=>match σ.H o with
   |some (some (.frz d))=>match fH d d' with
    |some p=>some (ρ,[p])
    |none=>none
   |_=>none
  |.pre o n=>match σ.H o with
   |some (some (.frz d))=>match cD 0 n d with
    |some d0=>match fH d0 d' with
     |some p=>some (ρ,[p])
     |none=>none
    |none=>none
   |_=>none
  |.sub o off n=>match σ.H o with
   |some (some (.frz d))=>match cD off n d with
    |some d0=>match fH d0 d' with
     |some p=>some (ρ,[p])
     |none=>none
    |none=>none
   |_=>none
  |.nil=>match dH d' with
   |true=>none
   |false=>some (ρ,[d'.len=0])
  |_=>none
 |.rob cs' x'=>match c with
  |.rob cs x=>some (ρ,[cs=cs',x=x'])
  |_=>none
 |.orig o' j' d'=>match c with
  |.orig o j d=>match Nat.beq j j'&&my σ o 0 with
   |true=>match fT ρ o' (some o)with
    |some ρ'=>match fH d d' with
     |some p=>some (ρ',[p])
     |none=>none
    |none=>none
   |false=>none
  |_=>none
 |_=>none
def lC(σ:State):Ren->List SC->List SC->Option (Ren×List Prop)
 | ρ,[],[]=>some (ρ,[])
 | ρ,c::cs,n::ns=>match yq σ ρ c n with
  |some (ρ',ps)=>match lC σ ρ' cs ns with
   |some (ρ'',qs)=>some (ρ'',ps++qs)
   |none=>none
  |none=>none
 |_,_,_=>none
def J1(σ:State)(ρ:Ren)(v n:SV):Option (Ren×List Prop) :=
 match v,n with
 |.c c,.c d=>yq σ ρ c d
 |.agg cs,.agg ns=>lC σ ρ cs ns
 |.fn f cs,.fn f' ns=>match Nat.beq f f' with
  |true=>lC σ ρ cs ns
  |false=>none
 |.fv F,.fv F'=>some (ρ,[F=F'])
 |.fvs o F,.fvs o' F'=>match fT ρ o' (some o)with
  |some ρ'=>some (ρ',[F=F'])
  |none=>none
 |_,_=>none
def ss(σ:State):Ren->List (Nat×SV)->Option (Ren×List Prop)
 | ρ,[]=>some (ρ,[])
 | ρ,(t,n)::l=>match σ.F t with
  |some v=>match J1 σ ρ v n with
   |some (ρ',ps)=>match ss σ ρ' l with
    |some (ρ'',qs)=>some (ρ'',ps++qs)
    |none=>none
   |none=>none
  |none=>none
def J2(σ:State)(pinned:Bool)(ρ:Ren)(ob n:Ob):Option (Ren×List Prop) :=
 match ob,n with
 |.box cs,.box ns=>lC σ ρ cs ns
 |.ints e k l,.ints e' k' l'=>if e=e'/\k=k' then some (ρ,[l=l'])else none
 |.bools e l,.bools e' l'=>if e=e' then some (ρ,[l=l'])else none
 |.strs e l,.strs e' l'=>if e=e' then some (ρ,[l=l'])else none
 |.rows v e ei k l,.rows v' e' ei' k' l'=>if e=e'/\ei=ei'/\k=k'/\(pinned=true->v<=v')then some (ρ,[l=l'])else none
 |.lst v e d,.lst v' e' d'=>if e=e'/\(pinned=true->v<=v')then(match fH d d' with|some p=>some (ρ,[p])|none=>none)else none
 |.mp l,.mp l'=>some (ρ,[l=l'])
 |.tr v es d,.tr v' es' d'=>match gT es es' with
  |true=>if pinned=true->v<=v' then(match fH d d' with|some p=>some (ρ,[p])|none=>none)else none
  |false=>none
 |.tr v (e1::e2::es) d,.trk v' es' d' n'=>match gT (e1::e2::es) es' with
  |true=>if pinned=true->v<=v' then(match fH d d' with|some p=>some (ρ,[p,n'=0])|none=>none)else none
  |false=>none
 |.trk v es d n,.trk v' es' d' n'=>match gT es es' with
  |true=>if pinned=true->v<=v' then(match fH d d' with|some p=>some (ρ,[p,n=n'])|none=>none)else none
  |false=>none
 |.qu e k l,.qu e' k' l'=>if e=e'/\k=k' then some (ρ,[l=l'])else none
 |.ints e k l,.qu e' k' l'=>if e=e'/\k=k' then some (ρ,[l=l'])else none
 |.yd v Y pre b,.yd v' Y' pre' b'=>some (ρ,[v=v',Y=Y',pre=pre',b=b'])
 |_,_=>none
def yr(n:Ob):Option Prop :=
 match n with
 |.ints _ _ l=>some (l=[])
 |.bools _ l=>some (l=[])
 |.rows _ _ _ _ l=>some (l=[])
 |.lst _ _ d=>some (d.len=0)
 |.tr _ es d=>match es with
  |_::_::es'=>if d.dep=es'.length+1 then some (d.len=0)else none
  |_=>none
 |_=>none
def n8(σ:State)(pins:List Nat):Ren->List (Nat×Option Ob)->Option (Ren×List Prop)
 | ρ,[]=>some (ρ,[])
 |_,(_,none)::_=>none
 | ρ,(o',some n)::l=>match lk ρ o' with
  |some (some o)=>match σ.H o with
   |some (some ob)=>match J2 σ (!(cM o' pins)) ρ ob n with
    |some (ρ',ps)=>match n8 σ pins ρ' l with
     |some (ρ'',qs)=>some (ρ'',ps++qs)
     |none=>none
    |none=>none
   |_=>none
  |some none=>match yr n with
   |some p=>match n8 σ pins ρ l with
    |some (ρ'',qs)=>some (ρ'',p::qs)
    |none=>none
   |none=>none
  |none=>none
def lD:Ren->List Nat
 | []=>[]
 |(_,some o)::l=>o::lD l
 |(_,none)::l=>lD l
def yt(hp:List (Nat×Option Ob)):Ren->Bool
 | []=>true
 |(k,_)::l=>(match lk hp k with
   |some (some _)=>true
   |_=>false)&&yt hp l
def yu(ρ:Ren):List Nat->Bool
 | []=>true
 |p::l=>(match lk ρ p with
   |some (some q)=>Nat.beq q p
   |_=>false)&&yu ρ l
def J3(σ n:State)(pins:List Nat):Option (List Prop) :=
 match ss σ (pins.map λp=>(p,some p)) n.fr with
 |none=>none
 |some (ρ,ps)=>match n8 σ pins ρ n.hp with
  |none=>none
  |some (ρ',qs)=>match fG (lD ρ')&&yt n.hp ρ'&&yu ρ' pins&&fG (ρ'.map (·.1))with
   |true=>some (ps++qs)
   |false=>none
def mz(σ:State)(o:Nat):List (Nat×Option Ob) :=
 match σ.H o with
 |some (some ob)=>match ob.isFz with
  |true=>[]
  |false=>match gy ob with
   |some d=>[(o,some (.frz d))]
   |none=>[]
 |_=>[]
def yw(σ:State)(o:Nat):List (Nat×Option Ob) :=
 match σ.H o with
 |some (some (.rows v e _ k l))=>[(o,some (.lst (v+1) e (.rows k l)))]
 |_=>[]
def yx(σ n:State)(c d:SC):List (Nat×Option Ob) :=
 match c,d with
 |.own o,.ro _=>mz σ o
 |.pre o _,.ro _=>mz σ o
 |.sub o _ _,.ro _=>mz σ o
 |.own o,.own o'=>match n.H o' with
  |some (some (.lst _ _ _))=>yw σ o
  |_=>[]
 |_,_=>[]
def su(σ n:State):List SC->List SC->List (Nat×Option Ob)
 |c::cs,d::ds=>yx σ n c d++su σ n cs ds
 |_,_=>[]
def yy(σ n:State):List SC->List SC->List (Nat×Option Ob)
 |c::cs,d::ds=>(match c,d with
  |.ptr o _,.ptr o' _=>match σ.H o,n.H o' with
   |some (some (.box cs)),some (some (.box ns))=>su σ n cs ns
   |_,_=>[]
  |_,_=>[])++yy σ n cs ds
 |_,_=>[]
def J4(σ n:State)(v d:SV):List (Nat×Option Ob) :=
 match v,d with
 |.c c,.c d=>match c,d with
  |.ptr o _,.ptr o' _=>match σ.H o,n.H o' with
   |some (some (.box cs)),some (some (.box ns))=>su σ n cs ns
   |_,_=>[]
  |c,d=>yx σ n c d
 |.agg cs,.agg ns=>su σ n cs ns
 |.fn _ cs,.fn _ ns=>yy σ n cs ns
 |_,_=>[]
def sw(σ n:State):List (Nat×SV)->List (Nat×Option Ob)
 | []=>[]
 |(t,d)::l=>match σ.F t with
  |some v=>J4 σ n v d++sw σ n l
  |none=>sw σ n l
def kv:List (Nat×Option Ob)->List (Nat×Option Ob)
 | []=>[]
 |(o,x)::l=>match cM o ((kv l).map (·.1))with
  |true=>(o,x)::kv l
  |false=>kv l
def To(σ n:State):State:=⟨σ.fr,kv (sw σ n n.fr)++σ.hp⟩
def eY(ρ ρ':Ren):Prop:=∀o x,lk ρ o=some x->lk ρ' o=some x
theorem eY.refl(ρ:Ren):eY ρ ρ:=λ_ _ h=>h
theorem eY.trans{a b c:Ren}(h:eY a b)(k:eY b c):eY a c:=λo x hx=>k o x (h o x hx)
def fA{ρ ρ':Ren}{n:Nat}{o:Option Nat}(h:fT ρ n o=some ρ'):eY ρ ρ'/\lk ρ' n=some o:=by
 unfold fT at h;split at h
 ·rename_i hn
  cases h;refine⟨λx y hx=>?_,by simp[bv]⟩
  rw[bv];split
  ·rename_i hnx;subst hnx;rw[hn]at hx;cases hx
  ·exact hx
 ·rename_i x hx
  split at h
  ·split at h
   ·rename_i hab
    cases h;rw[AY hab]at hx;exact⟨.refl _,hx⟩
   ·cases h
  ·cases h;exact⟨.refl _,hx⟩
  ·cases h
def gj{d d':FC}{p:Prop}(h:fH d d'=some p)(hp:p):d=d':=by
 unfold fH at h;split at h
 ·split at h
  ·rename_i hk;cases h;rw[hk,hp]
  ·cases h
 ·cases h;rw[hp]
 ·cases h;rw[hp]
 ·split at h
  ·rename_i hk;cases h;rw[hk,hp]
  ·cases h
 ·cases h;rw[hp]
 ·split at h
  ·rename_i hk;cases h;rw[hk,hp]
  ·cases h
 ·split at h
  ·rename_i hk;cases h;rw[hk,hp]
  ·cases h
 ·split at h
  ·rename_i hk;cases h;rw[hk,hp]
  ·cases h
 ·split at h
  ·rename_i hk;cases h;rw[hk,hp]
  ·cases h
 ·cases h
def Tp{d:FC}(hs:dH d=false)(h:d.len=0)(w:World):bu w (.slice none 0 0) d:=by
 have key:∀(R:Nat->Value->Prop),bP w (.slice none 0 0) 0 R:=λR=>⟨_,_,rfl,AE _,λh0=>by omega⟩
 cases d with
 |int k n=>cases hs
 |bool b=>cases hs
 |str l=>cases hs
 |_=>rename_i l;cases l<;>first|exact key _|(simp[FC.len]at h)
section
variable {C:Cx} {σ n:State} {mu mu':Nat->Img} {a:Act} {w:World}
def lE(σ n:State)(mu mu':Nat->Img)(ρ:Ren):Prop :=
 ∀o' x,lk ρ o'=some x->∃nb,n.H o'=some (some nb)/\nb.isFz=false/\match x with
  |some o=>∃ob,σ.H o=some (some ob)/\ob.isFz=false/\nb.shp.len=ob.shp.len/\mu' o'=mu o/\∀L,ob.len?=some L->cF (mu o).hd 0 L (mu o).hd/\ob.shp.len=L
  |none=>(mu' o').hd=.slice none 0 0
def Tq{ρ ρ':Ren}{c d:SC}{ps:List Prop}(h:yq σ ρ c d=some (ρ',ps))(hp:gh ps):eY ρ ρ'/\∀ρf,eY ρ' ρf->lE σ n mu mu' ρf->∀v,ak (σ.env C.wF mu) c v->ak (n.env C.wF mu') d v:=by
 have ref:∀{o' o:Nat} {ρ'},fT ρ o' (some o)=some ρ'->∀{p q:Shp->Prop} {p2 q2:FC->Prop} {v},(∀s s',s'.len=s.len->mu' o'=mu o->p s->q s')->∀ρf,eY ρ' ρf->lE σ n mu mu' ρf->b7 (σ.env C.wF mu) o v p p2->b7 (n.env C.wF mu') o' v q q2:=fun {o' o ρ'} hb {p q p2 q2 v} hpq ρf hex hro hv=>by
  obtain⟨nb,h1,h1f,ob,h2,h2f,h3,h4,_⟩:=hro o' _ (hex _ _ (fA hb).2);have:=aV h2 hv
  exact eO h1 hv.1 (hpq _ _ h3 h4 this)
 have own:∀{o' o L:Nat} {ρ'},yn σ o=some L->fT ρ o' (some o)=some ρ'->∀{v} {ρf} {q2:FC->Prop},eY ρ' ρf->lE σ n mu mu' ρf->ak (σ.env C.wF mu) (.own o) v->b7 (n.env C.wF mu') o' v (λs=>L<=s.len/\cF (mu' o').hd 0 L v) q2:=fun {o' o L ρ'} hL hb {v ρf q2} hex hro hv=>by
  obtain⟨nb,h1,h1f,ob,h2,h2f,h3,h4,h5⟩:=hro o' _ (hex _ _ (fA hb).2);have:=aV h2 hv
  unfold yn at hL;rw[h2]at hL;obtain⟨h6,h7⟩:=h5 L hL;refine eO h1 hv.1 ⟨by rw[h3,h7];exact AE _,?_⟩
  rw[h4,show v=(mu o).hd from this]
  exact h6
 unfold yq at h;split at h
 ·cases h;exact⟨.refl _,λ_ _ _ _ _=>trivial⟩
 ·split at h
  ·cases h;exact⟨.refl _,λ_ _ _ v hv=>hv⟩
  ·cases h
 ·split at h
  ·split at h
   ·rename_i hk;cases h;exact⟨.refl _,λ_ _ _ v hv=>by simp only[ak]at hv⊢;rw[hv,hk,show _=_ from hp]⟩
   ·cases h
  ·cases h
 ·split at h
  ·cases h;exact⟨.refl _,λ_ _ _ v hv=>by simp only[ak]at hv⊢;rw[hv,show _=_ from hp]⟩
  ·cases h
 ·split at h
  ·cases h;exact⟨.refl _,λ_ _ _ v hv=>by simp only[ak]at hv⊢;rw[hv,show _=_ from hp]⟩
  ·cases h
 ·split at h
  ·cases h;exact⟨.refl _,λ_ _ _ v hv=>hv⟩
  ·cases h
 ·split at h
  ·split at h
   ·rename_i hb
    cases h;exact⟨(fA hb).1,fun ρf hex hro v hv=>ref hb (p:=λ_=>v=(mu _).hd) (λs s' _ h2 h3=>by show v=(mu' _).hd;rw[h2];exact h3) ρf hex hro hv⟩
   ·cases h
  ·split at h
   ·rename_i hb
    cases h;refine⟨(fA hb).1,fun ρf hex hro v hv=>?_⟩
    obtain⟨nb,h1,h1f,h2⟩:=hro _ _ (hex _ _ (fA hb).2);simp only[ak]at hv;subst hv;refine eO h1 rfl ?_
    show _=(mu' _).hd
    rw[show(mu' _).hd=_ from h2]
   ·cases h
  ·cases h
 ·split at h
  ·split at h
   ·rename_i hb
    cases h;exact⟨(fA hb).1,fun ρf hex hro v hv=>ref hb (p:=λs=>_<=s.len/\cF (mu _).hd 0 _ v) (λs s' h1 h2 h3=>by
     rw[<-show _=_ from hp]
     show _<=s'.len/\cF (mu' _).hd 0 _ v
     rw[h2,h1];exact h3) ρf hex hro hv⟩
   ·cases h
  ·split at h
   ·rename_i hL
    split at h
    ·rename_i hb
     cases h;exact⟨(fA hb).1,fun ρf hex hro v hv=>by
      have hp:_=_:=hp
      subst hp;exact own hL hb hex hro hv⟩
    ·cases h
   ·cases h
  ·split at h
   ·rename_i hb
    cases h;refine⟨(fA hb).1,fun ρf hex hro v hv=>?_⟩
    obtain⟨nb,h1,h1f,h2⟩:=hro _ _ (hex _ _ (fA hb).2);simp only[ak]at hv;subst hv;refine eO h1 rfl ⟨by rw[show _=_ from hp];exact AT _,.inl ⟨?_,rfl,rfl,hp⟩⟩
    show(mu' _).hd=_
    exact h2
   ·cases h
  ·cases h
 ·split at h
  ·split at h
   ·rename_i hb
    cases h;obtain⟨hp1,hp2⟩:=nZ.1 hp;exact⟨(fA hb).1,fun ρf hex hro v hv=>ref hb (p:=λs=>_+_<=s.len/\cF (mu _).hd _ _ v) (λs s' h1 h2 h3=>by
     rw[<-hp1,<-show _=_ from hp2]
     show _+_<=s'.len/\cF (mu' _).hd _ _ v
     rw[h2,h1];exact h3) ρf hex hro hv⟩
   ·cases h
  ·split at h
   ·rename_i hb
    cases h;obtain⟨hp1,hp2⟩:=nZ.1 hp;exact⟨(fA hb).1,fun ρf hex hro v hv=>ref hb (p:=λs=>_<=s.len/\cF (mu _).hd 0 _ v) (λs s' h1 h2 h3=>by
     rw[<-hp1,<-show _=_ from hp2]
     show 0+_<=s'.len/\cF (mu' _).hd 0 _ v
     rw[h2,h1,AI];exact h3) ρf hex hro hv⟩
   ·cases h
  ·split at h
   ·rename_i hL
    split at h
    ·rename_i hb
     cases h;obtain⟨hp1,hp2⟩:=nZ.1 hp;exact⟨(fA hb).1,fun ρf hex hro v hv=>by
      have hp1:0=_:=hp1
      have hp2:_=_:=hp2
      subst hp1;subst hp2
      show b7 _ _ _ (λs=>0+_<=s.len/\_) _
      rw[AI];exact own hL hb hex hro hv⟩
    ·cases h
   ·cases h
  ·cases h
 ·split at h
  ·split at h
   ·rename_i hb
    split at h
    ·rename_i hx
     cases h;have hx:=AY hx
     exact⟨(fA hb).1,fun ρf hex hro v hv=>ref hb (p:=λs=>_<s.len/\∃b,ag (mu _).hd=some b/\v=.pointer (some ⟨b,_,none⟩)) (λs s' h1 h2 h3=>by
      rw[<-hx]
      show _<s'.len/\∃b,ag (mu' _).hd=some b/\v=.pointer (some ⟨b,_,none⟩)
      rw[h2,h1];exact h3) ρf hex hro hv⟩
    ·cases h
   ·cases h
  ·cases h
 ·split at h
  ·split at h
   ·rename_i hf
    split at h
    ·rename_i hb
     cases h;rw[AO]at hf;have hz:=AY hf.1
     refine⟨(fA hb).1,fun ρf hex hro v hv=>?_⟩
     obtain⟨nb,h1,h1f,ob,h2,h2f,h3,h4,_⟩:=hro _ _ (hex _ _ (fA hb).2);have hfr:=hf.2
     unfold my at hfr;rw[h2]at hfr;have h5:=AY hfr
     have h6:=aV h2 hv
     refine eO h1 hv.1 ⟨by rw[hz];exact AT _,λ_=>?_⟩
     rw[h3,<-show _=_ from hp]
     show(mu' _).ins[_]?=some v/\_
     rw[h4];exact h6.2 h5
    ·cases h
   ·cases h
  ·cases h
 ·split at h
  ·split at h
   ·rename_i hd
    cases h;have:=gj hd hp
    subst this;exact⟨.refl _,λ_ _ _ v hv=>hv⟩
   ·cases h
  ·split at h
   ·rename_i ho
    split at h
    ·rename_i hd
     cases h;have:=gj hd hp
     subst this;refine⟨.refl _,λ_ _ _ v hv=>?_⟩
     have h2:=hv.2
     have e:(σ.env C.wF mu).st _=.frz _:=fR ho
     rw[e]at h2;exact h2
    ·cases h
   ·cases h
  ·split at h
   ·rename_i ho
    split at h
    ·rename_i ht
     split at h
     ·rename_i hd
      cases h;have:=gj hd hp
      subst this;refine⟨.refl _,λ_ _ _ v hv=>?_⟩
      have h2:=hv.2
      have e:(σ.env C.wF mu).st _=.frz _:=fR ho
      rw[e]at h2;obtain⟨d',q1,q2⟩:=h2;rw[ht]at q1;cases q1;exact q2
     ·cases h
    ·cases h
   ·cases h
  ·split at h
   ·rename_i ho
    split at h
    ·rename_i ht
     split at h
     ·rename_i hd
      cases h;have:=gj hd hp
      subst this;refine⟨.refl _,λ_ _ _ v hv=>?_⟩
      have h2:=hv.2
      have e:(σ.env C.wF mu).st _=.frz _:=fR ho
      rw[e]at h2;obtain⟨d',q1,q2⟩:=h2;rw[ht]at q1;cases q1;exact q2
     ·cases h
    ·cases h
   ·cases h
  ·split at h
   ·cases h
   ·rename_i hs
    cases h;refine⟨.refl _,λ_ _ _ v hv=>?_⟩
    simp only[ak]at hv;subst hv;exact⟨⟨_,_,_,rfl,AE _⟩,Tp hs hp _⟩
  ·cases h
 ·split at h
  ·cases h
   obtain⟨hp1,hp2⟩:=nZ.1 hp;have hp2:_=_:=hp2
   subst hp1;subst hp2;exact⟨.refl _,λ_ _ _ v hv=>hv⟩
  ·cases h
 ·split at h
  ·split at h
   ·rename_i hf
    split at h
    ·rename_i hb
     split at h
     ·rename_i hd
      cases h;have:=gj hd hp
      subst this;rw[AO]at hf;have hj:=AY hf.1
      refine⟨(fA hb).1,fun ρf hex hro v hv=>⟨hv.1,?_⟩⟩
      obtain⟨nb,h1,h1f,ob,h2,h2f,h3,h4,_⟩:=hro _ _ (hex _ _ (fA hb).2);have hfr:=hf.2
      unfold my at hfr;rw[h2]at hfr;have h5:=AY hfr
      have h6:=aV h2 hv.2
      refine eO h1 hv.2.1 λ_=>?_
      show(mu' _).ins[_]?=_
      rw[h4,<-hj];exact h6 h5
     ·cases h
    ·cases h
   ·cases h
  ·cases h
 ·cases h
def yz:∀{cs ns:List SC} {ρ ρ':Ren} {ps:List Prop},lC σ ρ cs ns=some (ρ',ps)->gh ps->eY ρ ρ'/\ns.length=cs.length/\∀ρf,eY ρ' ρf->lE σ n mu mu' ρf->∀arr,dp (σ.env C.wF mu) cs arr->dp (n.env C.wF mu') ns arr
 | [],[],ρ,ρ',ps,h,hp=>by
  simp only[lC]at h;cases h;exact⟨.refl _,rfl,λ_ _ _ arr ha=>⟨ha.1,λi c hc=>by simp at hc⟩⟩
 | [],_::_,ρ,ρ',ps,h,_=>by simp[lC]at h
 |_::_,[],ρ,ρ',ps,h,_=>by simp[lC]at h
 |c::cs,d::ns,ρ,ρ',ps,h,hp=>by
  simp only[lC]at h;split at h
  ·rename_i ρ1 ps1 h1
   split at h
   ·rename_i ρ2 qs h2
    cases h;obtain⟨hp1,hp2⟩:=ym.1 hp;obtain⟨k1,k2⟩:=Tq (C:=C) (σ:=σ) (n:=n) (mu:=mu) (mu':=mu') h1 hp1;obtain⟨m1,m2,m3⟩:=yz h2 hp2;refine⟨k1.trans m1,by simp[m2],fun ρf hex hro arr ha=>⟨by rw[ha.1];simp[m2],λi x hx=>?_⟩⟩
    have tl:dp (σ.env C.wF mu) cs (arr.extract 1 arr.size):=by
     have hsz:=ha.1
     simp only[AR]at hsz;refine⟨by simp[hsz],λj y hy=>?_⟩
     obtain⟨u,q1,q2⟩:=ha.2 (j+1) y (by simpa using hy)
     have ψ:j+1<arr.size:=(BB.1 q1).1
     refine⟨u,?_,q2⟩
     rw[C9,AA (by omega),Cn 1 j]
     exact q1
    cases i with
    |zero =>
     simp at hx;subst hx
     obtain⟨u,q1,q2,q3⟩:=ha.2 0 c rfl;exact⟨u,q1,q2,k2 ρf (m1.trans hex) hro u q3⟩
    |succ i =>
     obtain⟨u,q1,q2⟩:=(m3 ρf hex hro _ tl).2 i x (by simpa using hx)
     refine⟨u,?_,q2⟩
     have ψ:=(BB.1 q1).1
     simp at ψ
     rw[C9,AA (by omega),Cn 1 i]at q1
     exact q1
   ·cases h
  ·cases h
def az9{ρ ρ':Ren}{v d:SV}{ps:List Prop}(h:J1 σ ρ v d=some (ρ',ps))(hp:gh ps):eY ρ ρ'/\∀ρf,eY ρ' ρf->lE σ n mu mu' ρf->∀u,aA C.P (σ.env C.wF mu) v u->aA C.P (n.env C.wF mu') d u:=by
 unfold J1 at h;split at h
 ·exact Tq h hp
 ·obtain⟨h1,_,h2⟩:=yz (C:=C) (σ:=σ) (n:=n) (mu:=mu) (mu':=mu') h hp
  refine⟨h1,fun ρf hex hro u hu=>?_⟩
  obtain⟨arr,rfl,ha⟩:=hu;exact⟨arr,rfl,h2 ρf hex hro arr ha⟩
 ·split at h
  ·rename_i hf
   obtain⟨h1,_,h2⟩:=yz (C:=C) (σ:=σ) (n:=n) (mu:=mu) (mu':=mu') h hp;refine⟨h1,fun ρf hex hro u hu=>?_⟩
   obtain⟨arr,rfl,ha⟩:=hu;exact⟨arr,by rw[AY hf],h2 ρf hex hro arr ha⟩
  ·cases h
 ·cases h
  have hp:_=_:=hp
  subst hp;exact⟨.refl _,λ_ _ _ u hu=>hu⟩
 ·rename_i o F o' F'
  cases hb:fT ρ o' (some o)with
  |none=>simp[hb]at h
  |some ρ1 =>
   simp[hb]at h
   obtain⟨rfl,rfl⟩:=h;have hp:F=F':=hp
   subst hp;refine⟨(fA hb).1,fun ρf hex hro u hu=>?_⟩
   have hu:b7 _ _ _ _:=hu
   obtain⟨nb,h1,h1f,ob,h2,h2f,h3,h4,_⟩:=hro o' _ (hex _ _ (fA hb).2);obtain⟨b,hb1,hb2⟩:=aV h2 hu;exact eO h1 hu.1 ⟨b,(show(mu' o').hd=_ by rw[h4];exact hb1),hb2⟩
 ·cases h
def Ts:∀{l:List (Nat×SV)} {ρ ρ':Ren} {ps:List Prop},ss σ ρ l=some (ρ',ps)->gh ps->eY ρ ρ'/\∀ρf,eY ρ' ρf->lE σ n mu mu' ρf->∀t d,lk l t=some d->∃v,σ.F t=some v/\∀u,aA C.P (σ.env C.wF mu) v u->aA C.P (n.env C.wF mu') d u
 | [],ρ,ρ',ps,h,hp=>by
  simp only[ss]at h;cases h;exact⟨.refl _,λ_ _ _ t d ht=>by simp[lk]at ht⟩
 |(t0,d0)::l,ρ,ρ',ps,h,hp=>by
  simp only[ss]at h;split at h
  ·rename_i v hv
   split at h
   ·rename_i ρ1 ps1 h1
    split at h
    ·rename_i ρ2 qs h2
     cases h;obtain⟨hp1,hp2⟩:=ym.1 hp;obtain⟨k1,k2⟩:=az9 (C:=C) (σ:=σ) (n:=n) (mu:=mu) (mu':=mu') h1 hp1;obtain⟨m1,m2⟩:=Ts h2 hp2;refine⟨k1.trans m1,fun ρf hex hro t d ht=>?_⟩
     rw[bv]at ht;split at ht
     ·rename_i htt;subst htt;cases ht
      exact⟨v,hv,k2 ρf (m1.trans hex) hro⟩
     ·exact m2 ρf hex hro t d ht
    ·cases h
   ·cases h
  ·cases h
def aA0{pd:Bool}{ρ ρ':Ren}{ob nb:Ob}{ps:List Prop}(h:J2 σ pd ρ ob nb=some (ρ',ps))(hp:gh ps):eY ρ ρ'/\(nb.shp.len=ob.shp.len/\nb.isFz=false/\ob.isFz=false)/\(pd=true->ob.shp.ver<=nb.shp.ver) /\
  ∀ρf,eY ρ' ρf->lE σ n mu mu' ρf->∀m,aX (σ.env C.wF mu) w m ob->aX (n.env C.wF mu') w m nb:=by
 unfold J2 at h;split at h
 ·obtain⟨h1,h2,h3⟩:=yz (C:=C) (σ:=σ) (n:=n) (mu:=mu) (mu':=mu') h hp
  refine⟨h1,⟨h2,rfl,rfl⟩,λ_=>AE _,fun ρf hex hro m hm=>?_⟩
  obtain⟨b,arr,t,q1,q2,q3,q4⟩:=hm;exact⟨b,arr,t,q1,q2,q3,h3 ρf hex hro arr q4⟩
 ·split at h
  ·rename_i hk
   obtain⟨rfl,rfl⟩:=hk;cases h;have hp:_=_:=hp
   subst hp;exact⟨.refl _,⟨rfl,rfl,rfl⟩,λ_=>AE _,λ_ _ _ m hm=>hm⟩
  ·cases h
 ·split at h
  ·rename_i hk
   subst hk;cases h;have hp:_=_:=hp
   subst hp;exact⟨.refl _,⟨rfl,rfl,rfl⟩,λ_=>AE _,λ_ _ _ m hm=>hm⟩
  ·cases h
 ·split at h
  ·rename_i hk
   subst hk;cases h;have hp:_=_:=hp
   subst hp;exact⟨.refl _,⟨rfl,rfl,rfl⟩,λ_=>AE _,λ_ _ _ m hm=>hm⟩
  ·cases h
 ·split at h
  ·rename_i hk
   obtain⟨rfl,rfl,rfl,hv⟩:=hk;cases h;have hp:_=_:=hp
   subst hp;exact⟨.refl _,⟨rfl,rfl,rfl⟩,hv,λ_ _ _ m hm=>hm⟩
  ·cases h
 ·split at h
  ·rename_i hk
   obtain⟨rfl,hv⟩:=hk;split at h
   ·rename_i hd
    cases h;have:=gj hd hp
    subst this;exact⟨.refl _,⟨rfl,rfl,rfl⟩,hv,λ_ _ _ m hm=>hm⟩
   ·cases h
  ·cases h
 ·cases h
  have hp:_=_:=hp
  subst hp;exact⟨.refl _,⟨rfl,rfl,rfl⟩,λ_=>AE _,λ_ _ _ m hm=>hm⟩
 ·split at h
  ·rename_i hes
   have hes:=js hes
   subst hes;split at h
   ·rename_i hv
    split at h
    ·rename_i hd
     cases h;have:=gj hd hp
     subst this;exact⟨.refl _,⟨rfl,rfl,rfl⟩,hv,λ_ _ _ m hm=>hm⟩
    ·cases h
   ·cases h
  ·cases h
 ·split at h
  ·rename_i hes
   have hes:=js hes
   subst hes;split at h
   ·rename_i hv
    split at h
    ·rename_i hd
     cases h;obtain⟨hp,rfl⟩:_/\_=_:=hp;have:=gj hd hp
     subst this;exact⟨.refl _,⟨rfl,rfl,rfl⟩,hv,λ_ _ _ m hm=>let⟨nd,h1,h2⟩:=hm;⟨nd,h1,h2.k⟩⟩
    ·cases h
   ·cases h
  ·cases h
 ·split at h
  ·rename_i hes
   have hes:=js hes
   subst hes;split at h
   ·rename_i hv
    split at h
    ·rename_i hd
     cases h;obtain⟨hp,rfl⟩:_/\_=_:=hp;have:=gj hd hp
     subst this;exact⟨.refl _,⟨rfl,rfl,rfl⟩,hv,λ_ _ _ m hm=>hm⟩
    ·cases h
   ·cases h
  ·cases h
 ·split at h
  ·rename_i hk
   obtain⟨rfl,rfl⟩:=hk;cases h;have hp:_=_:=hp
   subst hp;exact⟨.refl _,⟨rfl,rfl,rfl⟩,λ_=>AE _,λ_ _ _ m hm=>hm⟩
  ·cases h
 ·split at h
  ·rename_i hk
   obtain⟨rfl,rfl⟩:=hk;cases h;have hp:_=_:=hp
   subst hp;exact⟨.refl _,⟨rfl,rfl,rfl⟩,λ_=>AE _,λ_ _ _ m hm=>⟨hm.1,Jo hm.2⟩⟩
  ·cases h
 ·cases h
  obtain⟨rfl,rfl,rfl,rfl⟩:=hp;exact⟨.refl _,⟨rfl,rfl,rfl⟩,λ_=>AE _,λ_ _ _ m hm=>hm⟩
 ·cases h
def aA1{nb:Ob}{p:Prop}(h:yr nb=some p):nb.isFz=false:=by cases nb<;>first|rfl|cases h
def Tt{nb:Ob}{p:Prop}(h:yr nb=some p)(hp:p)(E:Env):aX E w (i9 nb) nb/\(i9 nb).blocks=[]:=by
 unfold yr at h;split at h
 ·cases h;have hp:_=_:=hp;subst hp;exact⟨⟨rfl,World.ownsRow_nil _ _ _ _⟩,rfl⟩
 ·cases h;have hp:_=_:=hp;subst hp;exact⟨⟨rfl,World.ownsRow_nil _ _ _ _⟩,rfl⟩
 ·cases h;have hp:_=_:=hp;subst hp;exact⟨⟨World.ownsRow_nil _ _ _ _,rfl,λi v r hi=>by simp[i9]at hi⟩,rfl⟩
 ·cases h
  have hp:_=_:=hp
  exact⟨⟨rfl,[],by rw[hp];exact World.ownsRow_nil _ _ _ _,λi u hi=>by simp at hi⟩,rfl⟩
 ·rename_i d
  split at h
  ·rename_i e1 e2 es'
   split at h
   ·rename_i hd
    cases h;have hp:_=_:=hp
    have hT:bq w (e1::e2::es') (bB (.slice none 0 0) []) d:=by
     refine⟨rfl,hd,?_,λi u y hu=>by simp[da]at hu⟩
     rw[hp];exact World.ownsRow_nil _ _ _ _
    refine⟨⟨_,rfl,hT⟩,?_⟩
    show(dN (e1::e2::es').length (bB (.slice none 0 0) [])).blocks=[]
    rw[eK hT,I9]
   ·cases h
  ·cases h
 ·cases h
def J5{pins:List Nat}:∀{l:List (Nat×Option Ob)} {ρ ρ':Ren} {ps:List Prop},n8 σ pins ρ l=some (ρ',ps)->gh ps->eY ρ ρ' /\
  ∀o' x,lk l o'=some x->∃nb,x=some nb/\nb.isFz=false/\∃y,lk ρ' o'=some y/\match y with
   |some o=>∃ob,σ.H o=some (some ob)/\ob.isFz=false/\nb.shp.len=ob.shp.len/\(o'∈pins->ob.shp.ver<=nb.shp.ver)/\∀ρf,eY ρ' ρf->lE σ n mu mu' ρf->∀m,aX (σ.env C.wF mu) w m ob->aX (n.env C.wF mu') w m nb
   |none=>(∀E,aX E w (i9 nb) nb)/\(i9 nb).blocks=[]
 | [],ρ,ρ',ps,h,hp=>by
  simp only[n8]at h;cases h;exact⟨.refl _,λo' x hx=>by simp[lk]at hx⟩
 |(_,none)::_,ρ,ρ',ps,h,_=>by simp[n8]at h
 |(o0,some n0)::l,ρ,ρ',ps,h,hp=>by
  simp only[n8]at h;split at h
  ·rename_i o ho
   split at h
   ·rename_i ob hob
    split at h
    ·rename_i ρ1 ps1 h1
     split at h
     ·rename_i ρ2 qs h2
      cases h;obtain⟨hp1,hp2⟩:=ym.1 hp;obtain⟨k1,k2,k3,k4⟩:=aA0 (C:=C) (σ:=σ) (n:=n) (mu:=mu) (mu':=mu') (w:=w) h1 hp1;obtain⟨m1,m2⟩:=J5 h2 hp2;refine⟨k1.trans m1,λo' x hx=>?_⟩
      rw[bv]at hx;split at hx
      ·rename_i hoo;subst hoo;cases hx
       refine⟨n0,rfl,k2.2.1,some o,m1 _ _ (k1 _ _ ho),ob,hob,k2.2.2,k2.1,λhpin=>k3 ?_,fun ρf hex hro m hm=>k4 ρf (m1.trans hex) hro m hm⟩
       cases hn:cM o0 pins with
       |false=>rfl
       |true=>exact absurd hpin (jF hn)
      ·exact m2 o' x hx
     ·cases h
    ·cases h
   ·cases h
  ·rename_i ho
   split at h
   ·rename_i p hnil
    split at h
    ·rename_i ρ2 qs h2
     cases h;obtain⟨hp1,hp2⟩:=nZ.1 hp;obtain⟨m1,m2⟩:=J5 h2 hp2;refine⟨m1,λo' x hx=>?_⟩
     rw[bv]at hx;split at hx
     ·rename_i hoo;subst hoo;cases hx
      exact⟨n0,rfl,aA1 hnil,none,m1 _ _ ho,λE=>(Tt hnil hp1 E).1,(Tt (w:=w) hnil hp1 (E0 w)).2⟩
     ·exact m2 o' x hx
    ·cases h
   ·cases h
  ·cases h
def J6{hp:List (Nat×Option Ob)}:∀{ρ:Ren},yt hp ρ=true->∀o x,lk ρ o=some x->∃nb,lk hp o=some (some nb)
 | [],_,o,x,h=>by simp[lk]at h
 |(k,y)::ρ,hk,o,x,h=>by
  simp only[yt,AO]at hk;rw[bv]at h;split at h
  ·rename_i hko;subst hko
   have:=hk.1
   split at this
   ·rename_i nb hnb;exact⟨nb,hnb⟩
   ·cases this
  ·exact J6 hk.2 o x h
def Tu{ρ:Ren}:∀{pins:List Nat},yu ρ pins=true->∀p∈pins,lk ρ p=some (some p)
 | [],_,p,h=>by simp at h
 |q::pins,hk,p,h=>by
  simp only[yu,AO]at hk;rcases AG.1 h with rfl|h
  ·have:=hk.1
   split at this
   ·rename_i q hq;rw[hq,AY this]
   ·cases this
  ·exact Tu hk.2 p h
def yA:∀{ρ:Ren} {k o:Nat},(k,some o)∈ρ->o∈lD ρ
 | [],_,_,h=>by simp at h
 |(k',some o')::ρ,k,o,h=>by
  simp only[lD];rcases AG.1 h with h|h
  ·cases h;simp
  ·exact AQ _ (yA h)
 |(k',none)::ρ,k,o,h=>by
  simp only[lD];rcases AG.1 h with h|h
  ·cases h
  ·exact yA h
def J7:∀{ρ:Ren},(lD ρ).Nodup->∀k k' o,(k,some o)∈ρ->(k',some o)∈ρ->(k,some o)=((k',some o):Nat×Option Nat)
 | [],_,k,k',o,h,_=>by simp at h
 |(q,none)::ρ,hn,k,k',o,h,h'=>by
  simp only[lD]at hn;rcases AG.1 h with h|h
  ·cases h
  ·rcases AG.1 h' with h' |h'
   ·cases h'
   ·exact J7 hn k k' o h h'
 |(q,some x)::ρ,hn,k,k',o,h,h'=>by
  simp only[lD]at hn;obtain⟨h1,h2⟩:=Aa.1 hn;rcases AG.1 h with h|h
  ·rcases AG.1 h' with h' |h'
   ·rw[h,h']
   ·cases h;exact absurd (yA h') h1
  ·rcases AG.1 h' with h' |h'
   ·cases h';exact absurd (yA h) h1
   ·exact J7 h2 k k' o h h'
def n9{α:Type}:∀{l:List (Nat×α)} {o:Nat} {x:α},lk l o=some x->(o,x)∈l
 | [],o,x,h=>by simp[lk]at h
 |(k,v)::l,o,x,h=>by
  rw[bv]at h;split at h
  ·rename_i hk;subst hk;cases h;simp
  ·exact AQ _ (n9 h)
def Tv{pins:List Nat}(hpins:∀o m,C.pin o=some m->o∈pins){ps:List Prop}(hs:J3 σ n pins=some ps)(hp:gh ps)(h:aD C σ a w):aD C n a w:=by
 obtain⟨wG,mu,hgf,h⟩:=h;unfold J3 at hs;split at hs
 ·cases hs
 ·rename_i ρ ps1 h1
  split at hs
  ·cases hs
  ·rename_i ρ' qs h2
   split at hs
   ·rename_i hchk
    cases hs;simp only[AO]at hchk;obtain⟨⟨⟨hn,hk⟩,hpi⟩,_⟩:=hchk;obtain⟨hp1,hp2⟩:=ym.1 hp
    let mu':Nat->Img:=λo'=>match lk ρ' o' with
     |some (some o)=>mu o
     |some none=>match n.H o' with
      |some (some nb)=>i9 nb
      |_=>⟨.slice none 0 0,[]⟩
     |none=>⟨undef,[]⟩
    obtain⟨k1,k2⟩:=Ts (C:=C.fz wG) (σ:=σ) (n:=n) (mu:=mu) (mu':=mu') h1 hp1;obtain⟨m1,m2⟩:=J5 (C:=C.fz wG) (σ:=σ) (n:=n) (mu:=mu) (mu':=mu') (w:=w) h2 hp2;have hro:lE σ n mu mu' ρ':=λo' x hx=>by
     obtain⟨nb,hnb⟩:=J6 hk o' x hx;have hnb':n.H o'=some (some nb):=hnb
     obtain⟨nb',e1,e1f,y,e2,e3⟩:=m2 o' _ hnb;cases e1;have:y=x:=BF (e2.symm.trans hx)
     subst this;refine⟨nb,hnb,e1f,?_⟩
     cases y with
     |some o =>
      obtain⟨ob,q1,q1f,q2,_⟩:=e3;exact⟨ob,q1,q1f,q2,by simp only[mu',hx],λL hL=>rP hL (h.ob o ob q1)⟩
     |none=>simp only[mu',hx,hnb'];exact SY nb
    have hob:∀o' nb,n.H o'=some (some nb)->(∃o ob,lk ρ' o'=some (some o)/\σ.H o=some (some ob)/\mu' o'=mu o/\(nb.isFz=false/\ob.isFz=false)/\(o'∈pins->ob.shp.ver<=nb.shp.ver)/\aX (n.env wG mu') w (mu' o') nb) \/
      (lk ρ' o'=some none/\(mu' o').blocks=[]/\aX (n.env wG mu') w (mu' o') nb):=λo' nb hnb=>by
     obtain⟨nb',e1,e1f,y,e2,e3⟩:=m2 o' _ hnb;cases e1;cases y with
     |some o =>
      obtain⟨ob,q1,q1f,q2,q3,q4⟩:=e3;have hmu:mu' o'=mu o:=by simp only[mu',e2]
      exact .inl ⟨o,ob,e2,q1,hmu,⟨e1f,q1f⟩,q3,by rw[hmu];exact q4 ρ' (.refl _) hro _ (h.ob o ob q1)⟩
     |none =>
      have hmu:mu' o'=i9 nb:=by simp only[mu',e2,hnb]
      exact .inr ⟨e2,by rw[hmu];exact e3.2,by rw[hmu];exact e3.1 _⟩
    have hdf:kX (C.fz wG).w0.heap.size n mu' a.defers w:=by
     obtain⟨rs,z1,z2,z3⟩:=h.df;refine⟨rs,z1,z2,λr hr=>?_⟩
     obtain⟨y1,y2,y3⟩:=z3 r hr;refine⟨y1,y2,λo' nb ho hb=>?_⟩
     rcases hob o' nb ho with⟨o,ob,_,q1,q2,_⟩|⟨_,q2,_⟩
     ·rw[q2]at hb;exact y3 o ob q1 hb
     ·rw[q2]at hb;simp[Img.blocks,ag]at hb
    refine⟨wG,mu',hgf,h.os,h.tape,h.output,h.size,h.block,λp u hp=>⟨λo' nb ho hb=>?_,(h.cells p u hp).2⟩,h.sz,hdf,λt sv ht=>?_,λo' nb ho=>?_,λo' nb ho=>?_,λo1 o2 n1 n2 hne ho1 ho2 b hb hb'=>?_,λo m hpm=>?_⟩
    ·rcases hob o' nb ho with⟨o,ob,_,q1,q2,_⟩|⟨_,q2,_⟩
     ·rw[q2]at hb;exact(h.cells p u hp).1 o ob q1 hb
     ·rw[q2]at hb;simp[Img.blocks,ag]at hb
    ·obtain⟨v,q1,q2⟩:=k2 ρ' m1 hro t sv ht
     exact q2 _ (h.fr t v q1)
    ·rcases hob o' nb ho with⟨_,_,_,_,_,_,_,q⟩|⟨_,_,q⟩<;>exact q
    ·rcases hob o' nb ho with⟨o,ob,_,q1,q2,_⟩|⟨_,q2,_⟩
     ·rw[q2];exact h.nd o ob q1
     ·rw[q2];simp[Img.blocks,ag]
    ·rcases hob o1 n1 ho1 with⟨x1,y1,l1,q1,q2,_⟩|⟨_,q2,_⟩
     ·rcases hob o2 n2 ho2 with⟨x2,y2,l2,r1,r2,_⟩|⟨_,r2,_⟩
      ·rw[q2]at hb;rw[r2]at hb'
       refine h.sep x1 x2 y1 y2 (λhc=>hne ?_) q1 r1 b hb hb'
       subst hc;have:=J7 (lw hn) o1 o2 x1 (n9 l1) (n9 l2)
       simpa using this
      ·rw[r2]at hb';simp[Img.blocks,ag]at hb'
     ·rw[q2]at hb;simp[Img.blocks,ag]at hb
    ·have hop:=hpins o m hpm
     have hlk:=Tu hpi o hop
     obtain⟨nb,hnb⟩:=J6 hk o _ hlk;have hH:n.H o=some (some nb):=hnb
     rcases hob o nb hH with⟨x1,y1,l1,q1,q2,⟨qf1,qf2⟩,q4,_⟩|⟨q1,_⟩
     ·rw[cz hH qf1]
      have:x1=o:=by rw[hlk]at l1;cases l1;rfl
      subst this;have h3:=h.pins x1 m hpm
      rw[cz q1 qf2]at h3;rw[q2];exact⟨h3.1,λhv=>h3.2 (by have:=q4 hop;omega)⟩
     ·rw[hlk]at q1;cases q1
   ·cases hs
def dY(σ:State)(l:List (Nat×Option Ob)):Prop:=∀o x,(o,x)∈l->∃ob ob',σ.H o=some (some ob)/\x=some ob'/\Cv ob ob'
theorem dY.app{l l':List (Nat×Option Ob)}(h:dY σ l)(k:dY σ l'):dY σ (l++l'):=λo x hm=>(AH.1 hm).elim (h o x) (k o x)
theorem dY.nil:dY σ []:=λo x hm=>by simp at hm
def pZ{o:Nat}:dY σ (mz σ o):=by
 unfold mz;split
 ·rename_i ob ho
  split
  ·exact .nil
  ·split
   ·rename_i d hd
    intro o' x hm
    simp at hm
    obtain⟨rfl,rfl⟩:=hm;exact⟨ob,_,ho,rfl,.inl ⟨d,hd,rfl⟩⟩
   ·exact .nil
 ·exact .nil
def Tw{o:Nat}:dY σ (yw σ o):=by
 unfold yw;split
 ·rename_i v e ei k l ho
  intro o' x hm
  simp at hm
  obtain⟨rfl,rfl⟩:=hm;exact⟨_,_,ho,rfl,.inr ⟨v,e,ei,k,l,rfl,rfl⟩⟩
 ·exact .nil
def Tx{c d:SC}:dY σ (yx σ n c d):=by
 unfold yx;split
 ·exact pZ
 ·exact pZ
 ·exact pZ
 ·split
  ·exact Tw
  ·exact .nil
 ·exact .nil
def yB:∀{cs ds:List SC},dY σ (su σ n cs ds)
 | [],_=>.nil
 |_::_,[]=>.nil
 |_::_,_::_=>dY.app Tx yB
def Ty:∀{cs ds:List SC},dY σ (yy σ n cs ds)
 | [],_=>.nil
 |_::_,[]=>.nil
 |c::cs,d::ds=>by
  unfold yy;refine dY.app ?_ Ty
  split
  ·split
   ·exact yB
   ·exact .nil
  ·exact .nil
def aA2{v d:SV}:dY σ (J4 σ n v d):=by
 unfold J4;split
 ·split
  ·split
   ·exact yB
   ·exact .nil
  ·exact Tx
 ·exact yB
 ·exact Ty
 ·exact .nil
def J8:∀{l:List (Nat×SV)},dY σ (sw σ n l)
 | []=>.nil
 |(t,d)::l=>by
  unfold sw;split
  ·exact dY.app aA2 J8
  ·exact J8
def J9:∀{l:List (Nat×Option Ob)},dY σ l->dY σ (kv l)/\((kv l).map (·.1)).Nodup
 | [],_=>⟨.nil,by simp[kv]⟩
 |(o,x)::l,h=>by
  obtain⟨h1,h2⟩:=J9 (l:=l) λo' x' hm=>h o' x' (AQ _ hm)
  unfold kv;split
  ·rename_i hn
   refine⟨λo' x' hm=>?_,?_⟩
   ·rcases AG.1 hm with hm|hm
    ·cases hm;exact h o x (AZ ..)
    ·exact h1 o' x' hm
   ·rw[BW]
    exact Aa.2 ⟨jF hn,h2⟩
  ·exact⟨h1,h2⟩
theorem St.cvs(h:St C σ mu a w):∀{fs:List (Nat×Option Ob)},dY σ fs->(fs.map (·.1)).Nodup ->
  ∃wG mu',GrowF C wG/\St (C.fz wG) ⟨σ.fr,fs++σ.hp⟩ mu' a w/\co (σ.env C.wF mu) ((State.mk σ.fr (fs++σ.hp)).env wG mu')
 | [],_,_=>⟨C.wF,mu,.refl C,h,co.refl _⟩
 |(o,x)::fs,hc,hn=>by
  rw[BW]at hn;obtain⟨n1,n2⟩:=Aa.1 hn;obtain⟨wG,mu1,g1,s1,e1⟩:=St.cvs h (fs:=fs) (λo' x' hm=>hc o' x' (AQ _ hm)) n2
  obtain⟨ob,ob',q1,rfl,q2⟩:=hc o x (AZ ..);have hno:∀x,(o,x) ∉ fs:=λx hm=>n1 (AJ.2 ⟨_,hm,rfl⟩)
  obtain⟨wH,mu2,g2,s2,_,e2⟩:=s1.cv1 (by rw[gF hno];exact q1) q2
  exact⟨wH,mu2,g1.trans g2,s2,e1.trans e2⟩
theorem aD.cvs(h:aD C σ a w){fs:List (Nat×Option Ob)}(hc:dY σ fs):aD C ⟨σ.fr,kv fs++σ.hp⟩ a w:=by
 obtain⟨wG,mu,hg,h⟩:=h;obtain⟨h1,h2⟩:=J9 hc;obtain⟨wH,mu1,g1,s1,_⟩:=h.cvs h1 h2;exact⟨wH,mu1,hg.trans g1,s1⟩
def Tz(h:aD C σ a w):aD C (To σ n) a w:=h.cvs J8
end
end Go.Sx
end
section
namespace Go.Sx
open Go.RowKit
def yC(ks:List Nat):SC->Bool
 |.int _ _=>true
 |.bool _=>true
 |.str _=>true
 |.nil=>true
 |.any=>true
 |.ro _=>true
 |.own o=>!(cM o ks)
 |.ptr o _=>!(cM o ks)
 |_=>false
def yD(ks:List Nat):Ob->Bool
 |.box cs=>cs.all (yC ks)
 |ob=>rL ob
def ja(bx:List Nat)(hp:List (Nat×Option Ob)):Bool :=
 hp.all (λp=>!(Nat.beq p.1 900)&&match p.2 with
  |some ob=>yD (hp.map (·.1)) ob
  |none=>false)&&bx.all λo=>match lk hp o with
  |some (some (.box (_::_)))=>true
  |_=>false
def oa(bx:List Nat):List (Nat×SV)->Bool
 | []=>true
 |(_,sv)::l=>(match sv with
  |.c c=>match c with
   |.int _ _=>true
   |.bool _=>true
   |.str _=>true
   |.ro _=>true
   |.rob _ _=>true
   |.ptr o i=>Nat.beq i 0&&!(cM o bx)
   |_=>false
  |_=>false)&&oa bx l
def roB(σ:State):SC->Option FC
 |.int k n=>some (.int k n)
 |.bool b=>some (.bool b)
 |.str l=>some (.str l)
 |.ro d=>some d
 |.own o=>match σ.H o with
  |some (some ob)=>gy ob
  |_=>none
 |_=>none
def TA(σ:State):List SC->Option (List (Nat×List FC))
 | []=>some []
 |c::l=>match c with
  |.ptr o i=>match i with
   |0=>match σ.H o with
    |some (some (.box cs))=>match eM (roB σ) cs,TA σ l with
     |some ds,some r=>some ((o,ds)::r)
     |_,_=>none
    |_=>none
   |_+1=>none
  |_=>none
def mA(cps:List (Nat×List FC)):List (Nat×Option Ob):=cps.map λp=>(p.1,some (.box (p.2.map dB)))
def jK(cps:List (Nat×List FC)):List MA:=cps.map λp=>.box (p.2.map .c)
def oc(cps:List (Nat×List FC)):List SC:=cps.map λp=>.ptr p.1 0
def Ka(N t pt:Nat)(bx pins:List Nat)(fr:List (Nat×SV))(hp:List (Nat×Option Ob))(cps:List (Nat×List FC)):Bool :=
 Nat.blt pt N&&oa bx fr&&fG (cps.map (·.1))&&(cps.all λp=>cM p.1 (hp.map (·.1)))&&cM t (fr.map (·.1))&&pins.all λp=>!(cM p (hp.map (·.1)))
def p9(ct:List AD->Option Post)(cps:List (Nat×List FC))(Y:YJ)(R:D7->Bool->Prop):Prop :=
 match ct (.ma (.m (.ob (.yd 0 Y [] true)))::(jK cps).map .ma)with
 |some ⟨q,.st (.tup []) [] outs,[]⟩=>match outs with
  |.m (.ob (.yd _ Y' xs b))::_=>q/\Y'=Y/\R xs b
  |_=>False
 |_=>False
section
variable {C:Cx}
structure StB (P:Program) (pin:Nat->Option Img) (n:State) (mu:Nat->Img) (tmps:Array Value) (wG W:World) (B:Nat->Prop):Prop where
 apart:∀p u,wG.cell? p=some u->∀o ob,n.H o=some (some ob)->p.block ∉ (mu o).blocks
 fr:∀t sv,n.F t=some sv->aA P (n.env wG mu) sv (tmps.getD t undef)
 ob:∀o ob,n.H o=some (some ob)->aX (n.env wG mu) W (mu o) ob
 nd:∀o ob,n.H o=some (some ob)->(mu o).blocks.Nodup/\∀b∈(mu o).blocks,B b
 sep:∀o o' ob ob',o≠o'->n.H o=some (some ob)->n.H o'=some (some ob')->∀b∈(mu o).blocks,b ∉ (mu o').blocks
 pins:∀o m,pin o=some m->match n.ost o with|.absent=>False|.dead=>True|.frz _=>True|.live s=>(mu o).hd=m.hd/\(s.ver=0->mu o=m)
theorem StB.st{P:Program}{pin:Nat->Option Img}{n:State}{mu:Nat->Img}{tmps:Array Value}{wG W:World}{B:Nat->Prop}(h:StB P pin n mu tmps wG W B){N:Nat}(hsz:tmps.size=N)
  (hc:∀p u,wG.cell? p=some u->W.cell? p=some u):St ⟨P,N,W,wG,B,pin⟩ n mu ⟨tmps,[]⟩ W :=
 ⟨.refl _,rfl,rfl,AE _,λ_ _ _=>rfl,λp u hp=>⟨λo ob ho=>h.apart p u hp o ob ho,hc p u hp⟩,hsz,.nil,h.fr,h.ob,λo ob ho=>⟨(h.nd o ob ho).1,λb hb=>.inl ((h.nd o ob ho).2 b hb)⟩,h.sep,h.pins⟩
theorem StB.of{σ:State}{mu:Nat->Img}{a:Act}{w:World}(h:St C σ mu a w):StB C.P C.pin σ mu a.tmps C.wF w (λb=>(C.M b\/C.w0.heap.size<=b)/\b<w.heap.size) :=
 ⟨λp u hp=>(h.cells p u hp).1,h.fr,h.ob,λo ob ho=>⟨(h.nd o ob ho).1,λb hb=>⟨(h.nd o ob ho).2 b hb,(h.ob o ob ho).block b hb⟩⟩,h.sep,h.pins⟩
theorem StB.world{P:Program}{pin:Nat->Option Img}{n:State}{mu:Nat->Img}{tmps:Array Value}{wG W W':World}{B:Nat->Prop}(h:StB P pin n mu tmps wG W B)
  (hk:∀b,B b->W'.heap[b]?=W.heap[b]?):StB P pin n mu tmps wG W' B :=
 ⟨h.apart,h.fr,λo ob ho=>(h.ob o ob ho).keep (co.refl _) λb hb=>hk b ((h.nd o ob ho).2 b hb),h.nd,h.sep,h.pins⟩
theorem StB.blocks{P:Program}{pin:Nat->Option Img}{n:State}{mu:Nat->Img}{tmps:Array Value}{wG W:World}{B B':Nat->Prop}(h:StB P pin n mu tmps wG W B)
  (hk:∀o ob,n.H o=some (some ob)->∀b∈(mu o).blocks,B b->B' b):StB P pin n mu tmps wG W B' :=
 ⟨h.apart,h.fr,h.ob,λo ob ho=>⟨(h.nd o ob ho).1,λb hb=>hk o ob ho b hb ((h.nd o ob ho).2 b hb)⟩,h.sep,h.pins⟩
def mB{o:Nat}:∀{l:List Nat},cM o l=false->o∈l
 | [],h=>by simp[cM]at h
 |x::l,h=>by
  simp only[cM]at h;split at h
  ·rename_i hx
   have:=AY hx
   subst this;exact AZ
  ·exact AQ _ (mB h)
def yE{bx:List Nat}{hp:List (Nat×Option Ob)}(h:ja bx hp=true):(∀o x,lk hp o=some x->o≠900/\∃ob,x=some ob/\yD (hp.map (·.1)) ob=true)/\∀o∈bx,∃c cs,lk hp o=some (some (.box (c::cs))):=by
 unfold ja at h;rw[AO]at h;refine⟨λo x hx=>?_,λo ho=>?_⟩
 ·have h1:=Ac.1 h.1 _ (n9 hx)
  rw[AO]at h1;refine⟨λe=>?_,?_⟩
  ·subst e;simp at h1
  ·cases x with
   |none=>simp at h1
   |some ob=>exact⟨ob,rfl,h1.2⟩
 ·have h1:=Ac.1 h.2 o ho
  split at h1
  ·rename_i c cs hl;exact⟨c,cs,hl⟩
  ·cases h1
def TB{ks:List Nat}{E E':Env}(hw:E'.wF=E.wF)(hs:∀o∈ks,E'.st o=E.st o/\E'.mu o=E.mu o){w:World}{m:Img}{ob:Ob}(hok:yD ks ob=true)(h:aX E w m ob):aX E' w m ob:=by
 cases ob with
 |box cs =>
  obtain⟨b,arr,t,h1,h2,h3,h4,h5⟩:=h;refine⟨b,arr,t,h1,h2,h3,h4,λi c hc=>?_⟩
  obtain⟨u,z1,z2,z3⟩:=h5 i c hc;refine⟨u,z1,z2,?_⟩
  have h9:yC ks c=true:=Ac.1 hok c (AK hc)
  cases c with
  |own o =>
   have hne:o∈ks:=mB (by simpa[yC]using h9)
   obtain⟨q1,q2⟩:=hs o hne;refine⟨z3.1,?_⟩
   rw[q1,q2,hw];exact z3.2
  |ptr o i =>
   have hne:o∈ks:=mB (by simpa[yC]using h9)
   obtain⟨q1,q2⟩:=hs o hne;refine⟨z3.1,?_⟩
   rw[q1,q2];exact z3.2
  |ro d=>exact⟨z3.1,by rw[hw];exact z3.2⟩
  |int k n=>exact z3
  |bool b=>exact z3
  |str l=>exact z3
  |nil=>exact z3
  |any=>trivial
  |_=>cases h9
 |lst v e d =>
  obtain⟨q1,vs,q2,q3⟩:=h;exact⟨q1,vs,q2,λi u hi=>let⟨r1,fc,r2,r3⟩:=q3 i u hi;⟨r1,fc,r2,by rw[hw];exact r3⟩⟩
 |yd v Y pre g=>exact⟨h.1,by rw[hw];exact h.2.1,h.2.2⟩
 |ints e k l=>exact h
 |bools e l=>exact h
 |rows v e ei k l=>exact h
 |tr v es d=>exact h
 |_=>cases hok
def Kb{bx:List Nat}:∀{fr:List (Nat×SV)},oa bx fr=true->∀t sv,lk fr t=some sv ->
  (∀(P:Program) (E E':Env) (v:Value),bU E.wF E'.wF->aA P E sv v->aA P E' sv v)\/∃o,sv=.c (.ptr o 0)/\o∈bx
 | [],_,t,sv,h=>by cases h
 |(t',sv')::fr,hok,t,sv,h=>by
  simp only[oa,AO]at hok;rw[bv]at h;split at h
  ·cases h
   obtain⟨h1,_⟩:=hok;split at h1
   ·rename_i c
    split at h1
    all_goals first|(exact .inl λP E E' v _ hv=>hv)|skip
    ·exact .inl λP E E' v hk hv=>⟨hv.1,hv.2.mono hk⟩
    ·refine .inl λP E E' v hk hv=>?_
     obtain⟨b,off,q1,q2⟩:=hv;exact⟨b,off,q1,λj fc hj=>let⟨u,z1,z2⟩:=q2 j fc hj;⟨u,hk _ _ z1,z2.mono hk⟩⟩
    ·rename_i o i
     rw[AO]at h1;have h2:=AY h1.1
     subst h2;refine .inr ⟨o,rfl,mB ?_⟩
     simpa using h1.2
    ·cases h1
   ·cases h1
  ·exact Kb hok.2 t sv h
theorem StB.item{P:Program}{pin:Nat->Option Img}{bx:List Nat}{fr:List (Nat×SV)}{hp:List (Nat×Option Ob)}{mu:Nat->Img}{tmps:Array Value}{wG W:World}{B:Nat->Prop}(h:StB P pin ⟨fr,hp⟩ mu tmps wG W B)(hok:ja bx hp=true)
  {pt:Nat}(hpt:pt<tmps.size){e:TypeId}{x:D6}{v:Value}(hv1:v.oneCell'=true)(hrow:W.ownsRow 0 e 1 v x.length (x.map (.int .i64)))(hB:∀b,B b->ag v≠some b)(hw:∀p u,wG.cell? p=some u->ag v≠some p.block) :
  StB P (λo=>if o=900 then some ⟨v,[]⟩else if cM o bx=false then some (mu o)else pin o) ⟨(pt,.c (.own 900))::fr,(900,some (.ints e .i64 x))::hp⟩ (λo=>if o=900 then⟨v,[]⟩else mu o) (tmps.setIfInBounds pt v) wG W (λb=>B b\/ag v=some b):=by
 obtain⟨hk1,hk2⟩:=yE hok;have hn9:lk hp 900=none:=by
  cases hq:lk hp 900 with
  |none=>rfl
  |some x=>exact absurd rfl (hk1 900 x hq).1
 have hH:∀o,(⟨(pt,.c (.own 900))::fr,(900,some (.ints e .i64 x))::hp⟩:State).H o=if 900=o then some (some (.ints e .i64 x))else lk hp o:=λo=>by
  show lk ((900,_)::hp) o=_
  rw[bv]
 have hbk:∀b,b∈(⟨v,[]⟩:Img).blocks↔ag v=some b:=λb=>by simp[Img.blocks]
 have hle:co ((⟨fr,hp⟩:State).env wG mu) ((⟨(pt,.c (.own 900))::fr,(900,some (.ints e .i64 x))::hp⟩:State).env wG λo=>if o=900 then⟨v,[]⟩else mu o):=⟨λ_ _ h=>h,λo=>by
  by_cases ho:o=900
  ·subst ho
   refine .inl ?_
   show d5 (State.ost ⟨fr,hp⟩ 900) _ _ _
   rw[show State.ost ⟨fr,hp⟩ 900=.absent by simp only[State.ost,State.H,hn9]]
   trivial
  ·show ec _ (State.ost ⟨fr,hp⟩ o) (State.ost ⟨(pt,.c (.own 900))::fr,(900,some (.ints e .i64 x))::hp⟩ o) (mu o) (if o=900 then⟨v,[]⟩else mu o)
   rw[AB ho,show State.ost ⟨(pt,.c (.own 900))::fr,(900,some (.ints e .i64 x))::hp⟩ o=State.ost ⟨fr,hp⟩ o by
    simp only[State.ost,hH,AB (λe:900=o=>ho e.symm)];rfl]
   exact ec.refl _ _ _⟩
 have hcase:∀o ob,(⟨(pt,.c (.own 900))::fr,(900,some (.ints e .i64 x))::hp⟩:State).H o=some (some ob)->(o=900/\ob=.ints e .i64 x)\/(o≠900/\(⟨fr,hp⟩:State).H o=some (some ob)):=λo ob ho=>by
  rw[hH]at ho;split at ho
  ·rename_i he;cases ho;exact .inl ⟨he.symm,rfl⟩
  ·rename_i he;exact .inr ⟨λe=>he e.symm,ho⟩
 refine⟨λp u hp' o ob ho hb=>?_,λt sv ht=>?_,λo ob ho=>?_,λo ob ho=>?_,λo o' ob ob' hne ho ho' b hb hb'=>?_,λo m hm=>?_⟩
 ·rcases hcase o ob ho with⟨rfl,_⟩|⟨hne,ho⟩
  ·rw[AA rfl]at hb;exact hw p u hp' ((hbk _).1 hb)
  ·rw[AB hne]at hb;exact h.apart p u hp' o ob ho hb
 ·have ht2:lk ((pt,SV.c (.own 900))::fr) t=some sv:=ht
  clear ht;rw[bv]at ht2;split at ht2
  ·rename_i he
   subst he;cases ht2;have:(tmps.setIfInBounds pt v).getD pt undef=v:=by
    rw[BJ];simp[hpt]
   rw[this];refine⟨hv1,?_⟩
   rw[show((⟨(pt,.c (.own 900))::fr,(900,some (.ints e .i64 x))::hp⟩:State).env wG λo=>if o=900 then⟨v,[]⟩else mu o).st 900=.live (Ob.ints e .i64 x).shp from cz (σ:=⟨(pt,.c (.own 900))::fr,(900,some (.ints e .i64 x))::hp⟩) (o:=900) (ob:=.ints e .i64 x) (by rw[hH,AA rfl])]
   show v=(if 900=900 then⟨v,[]⟩else mu 900:Img).hd
   rw[AA rfl]
  ·rename_i hne
   have:(tmps.setIfInBounds pt v).getD t undef=tmps.getD t undef:=by
    rw[BJ,BJ,CJ hne]
   rw[this];exact(h.fr t sv ht2).mono hle
 ·rcases hcase o ob ho with⟨rfl,rfl⟩|⟨hne,ho⟩
  ·rw[AA rfl];exact⟨rfl,hrow⟩
  ·rw[AB hne];exact(h.ob o ob ho).keep hle λ_ _=>rfl
 ·rcases hcase o ob ho with⟨rfl,rfl⟩|⟨hne,ho⟩
  ·rw[AA rfl]
   refine⟨?_,λb hb=>.inr ((hbk b).1 hb)⟩
   simp only[Img.blocks,A4,AV];cases ag v<;>simp
  ·rw[AB hne];exact⟨(h.nd o ob ho).1,λb hb=>.inl ((h.nd o ob ho).2 b hb)⟩
 ·rcases hcase o ob ho with⟨rfl,rfl⟩|⟨h1,ho⟩
  ·rcases hcase o' ob' ho' with⟨rfl,rfl⟩|⟨h2,ho'⟩
   ·exact hne rfl
   ·rw[AA rfl]at hb;rw[AB h2]at hb'
    exact hB b ((h.nd o' ob' ho').2 b hb') ((hbk b).1 hb)
  ·rcases hcase o' ob' ho' with⟨rfl,rfl⟩|⟨h2,ho'⟩
   ·rw[AA rfl]at hb';rw[AB h1]at hb
    exact hB b ((h.nd o ob ho).2 b hb) ((hbk b).1 hb')
   ·rw[AB h1]at hb;rw[AB h2]at hb'
    exact h.sep o o' ob ob' hne ho ho' b hb hb'
 ·by_cases h9:o=900
  ·subst h9
   rw[AA rfl]at hm;cases hm;rw[cz (ob:=.ints e .i64 x) (by rw[hH,AA rfl])]
   rw[AA rfl];exact⟨rfl,λ_=>rfl⟩
  ·rw[AB h9]at hm
   have hoe:State.ost ⟨(pt,.c (.own 900))::fr,(900,some (.ints e .i64 x))::hp⟩ o=State.ost ⟨fr,hp⟩ o:=by
    simp only[State.ost,hH,AB (λe:900=o=>h9 e.symm)];rfl
   rw[hoe,AB h9];split at hm
   ·rename_i hbx
    cases hm;obtain⟨c,cs,hl⟩:=hk2 o (mB hbx);rw[cz (σ:=⟨fr,hp⟩) (ob:=.box (c::cs)) hl];exact⟨rfl,λ_=>rfl⟩
   ·exact h.pins o m hm
theorem StB.done{P:Program}{pin:Nat->Option Img}{bx:List Nat}{fr:List (Nat×SV)}{hp hp':List (Nat×Option Ob)}{mu:Nat->Img}{tmps:Array Value}{wG W:World}{B:Nat->Prop}(h:StB P pin ⟨fr,hp⟩ mu tmps wG W B)(hok:ja bx hp=true)(hok':ja bx hp'=true)(hfr:oa bx fr=true)
  {C2:Cx}{mu':Nat->Img}{a:Act}{w:World}{e:TypeId}{x:D6}{v:Value}(hst:St C2 ⟨[],(900,some (.ints e .i64 x))::hp'⟩ mu' a w)(hkG:bU wG C2.wF)
  (hpin:C2.pin=λo=>if o=900 then some ⟨v,[]⟩else if cM o bx=false then some (mu o)else pin o) :
  mu' 900=⟨v,[]⟩/\StB P pin ⟨fr,hp'⟩ mu' tmps C2.wF w (λb=>(C2.M b\/C2.w0.heap.size<=b)/\ag v≠some b/\b<w.heap.size):=by
 obtain⟨hk1,hk2⟩:=yE hok;obtain⟨hk1',hk2'⟩:=yE hok';have hH:∀o,(⟨[],(900,some (.ints e .i64 x))::hp'⟩:State).H o=if 900=o then some (some (.ints e .i64 x))else lk hp' o:=λo=>by
  show lk ((900,_)::hp') o=_
  rw[bv]
 have hH9:(⟨[],(900,some (.ints e .i64 x))::hp'⟩:State).H 900=some (some (.ints e .i64 x)):=by rw[hH,AA rfl]
 have hHx:∀o,o≠900->(⟨[],(900,some (.ints e .i64 x))::hp'⟩:State).H o=(⟨fr,hp'⟩:State).H o:=λo ho=>by
  rw[hH,AB (λe=>ho e.symm)];rfl
 have hmu9:mu' 900=⟨v,[]⟩:=by
  have:=hst.pins 900 ⟨v,[]⟩ (by rw[hpin];exact AA rfl)
  rw[cz hH9]at this;exact this.2 rfl
 have hin:∀o ob,(⟨fr,hp'⟩:State).H o=some (some ob)->o≠900/\yD (hp'.map (·.1)) ob=true:=λo ob ho=>by
  obtain⟨h1,ob',h2,h3⟩:=hk1' o _ ho;cases h2;exact⟨h1,h3⟩
 have hoff:∀o,o≠900->((⟨fr,hp'⟩:State).env C2.wF mu').st o=((⟨[],(900,some (.ints e .i64 x))::hp'⟩:State).env C2.wF mu').st o/\((⟨fr,hp'⟩:State).env C2.wF mu').mu o=((⟨[],(900,some (.ints e .i64 x))::hp'⟩:State).env C2.wF mu').mu o:=λo ho=>by
  refine⟨?_,rfl⟩
  show State.ost _ o=State.ost _ o
  simp only[State.ost,hHx o ho]
 have hbxl:∀o∈bx,(mu' o).hd=(mu o).hd/\mu' o=mu o/\∃c cs,lk hp' o=some (some (.box (c::cs))):=λo ho=>by
  obtain⟨c,cs,hl⟩:=hk2' o ho;have hne:=(hk1' o _ hl).1
  have hbf:cM o bx=false:=by
   cases hq:cM o bx with
   |false=>rfl
   |true=>exact absurd ho (jF hq)
  have:=hst.pins o (mu o) (by rw[hpin];show(if o=900 then _ else _)=_;rw[AB hne,AA hbf])
  rw[cz (ob:=.box (c::cs)) (by rw[hHx o hne];exact hl)]at this
  exact⟨this.1,this.2 rfl,c,cs,hl⟩
 refine⟨hmu9,λp u hp o ob ho hb=>?_,λt sv ht=>?_,λo ob ho=>?_,λo ob ho=>?_,λo o' ob ob' hne ho ho'=>?_,λo m hm=>?_⟩
 ·obtain⟨h1,h2⟩:=hin o ob ho
  exact(hst.cells p u hp).1 o ob (by rw[hHx o h1];exact ho) hb
 ·rcases Kb hfr t sv ht with h1|⟨o,rfl,ho⟩
  ·exact h1 P _ _ _ hkG (h.fr t sv ht)
  ·have h2:=h.fr t _ ht
   obtain⟨q1,q2,c,cs,q3⟩:=hbxl o ho;obtain⟨c0,cs0,q4⟩:=hk2 o ho;refine⟨h2.1,?_⟩
   have h3:=h2.2
   rw[show((⟨fr,hp⟩:State).env wG mu).st o=.live (Ob.box (c0::cs0)).shp from cz q4]at h3
   rw[show((⟨fr,hp'⟩:State).env C2.wF mu').st o=.live (Ob.box (c::cs)).shp from cz q3]
   refine⟨by show 0<(c::cs).length;simp,?_⟩
   obtain⟨_,b,z1,z2⟩:=h3;exact⟨b,by show ag (mu' o).hd=some b;rw[q1];exact z1,z2⟩
 ·obtain⟨h1,h2⟩:=hin o ob ho
  exact TB (E:=(⟨[],(900,some (.ints e .i64 x))::hp'⟩:State).env C2.wF mu') (E':=(⟨fr,hp'⟩:State).env C2.wF mu') rfl (λo2 ho2=>hoff o2 λe9=>by
   subst e9;obtain⟨x9,hx9⟩:=mw ho2;exact(hk1' _ x9 hx9).1 rfl) h2 (hst.ob o ob (by rw[hHx o h1];exact ho))
 ·obtain⟨h1,h2⟩:=hin o ob ho
  have ho2:(⟨[],(900,some (.ints e .i64 x))::hp'⟩:State).H o=some (some ob):=by rw[hHx o h1];exact ho
  obtain⟨q1,q2⟩:=hst.nd o ob ho2;refine⟨q1,λb hb=>⟨q2 b hb,λhc=>?_,(hst.ob o ob ho2).block b hb⟩⟩
  exact hst.sep o 900 ob _ h1 ho2 hH9 b hb (by rw[hmu9];simp[Img.blocks,hc])
 ·obtain⟨h1,_⟩:=hin o ob ho
  obtain⟨h2,_⟩:=hin o' ob' ho';exact hst.sep o o' ob ob' hne (by rw[hHx o h1];exact ho) (by rw[hHx o' h2];exact ho')
 ·have h0:=h.pins o m hm
  have hne:o≠900:=λe=>by
   subst e;have:lk hp 900=none:=by
    cases hq:lk hp 900 with
    |none=>rfl
    |some x=>exact absurd rfl (hk1 900 x hq).1
   rw[show State.ost ⟨fr,hp⟩ 900=.absent by simp only[State.ost,State.H,this]]at h0
   exact h0
  cases hbf:cM o bx with
  |false =>
   have ho:=mB hbf
   obtain⟨q1,q2,c,cs,q3⟩:=hbxl o ho;obtain⟨c0,cs0,q4⟩:=hk2 o ho;rw[cz (σ:=⟨fr,hp⟩) (ob:=.box (c0::cs0)) q4]at h0;rw[cz (σ:=⟨fr,hp'⟩) (ob:=.box (c::cs)) q3];have h2:=h0.2 rfl
   exact⟨by rw[q2,h2],λ_=>by rw[q2,h2]⟩
  |true =>
   have:=hst.pins o m (by rw[hpin];show(if o=900 then _ else _)=_;rw[AB hne,AB (by rw[hbf];simp)];exact hm)
   rw[show State.ost ⟨[],(900,some (.ints e .i64 x))::hp'⟩ o=State.ost ⟨fr,hp'⟩ o by simp only[State.ost,hHx o hne]]at this
   exact this
def Kc{w:World}{l:Nat}{r:Loop}{o':Obj}(hl:w.heap[l]?=some (.loop r)){p:Addr}{u:Value}(hp:w.cell? p=some u):p.block≠l/\(w.putObj l o').cell? p=some u:=by
 have hne:p.block≠l:=λe=>by
  simp only[World.cell?,e,hl]at hp;cases hp
 exact⟨hne,by rw[World.cell?_of_block (World.putObj_heap_other hne)];exact hp⟩
theorem St.putL{σ:State}{mu:Nat->Img}{a:Act}{w:World}(h:St C σ mu a w){l:Nat}{r:Loop}(hl:w.heap[l]?=some (.loop r))(hb:∀o ob,σ.H o=some (some ob)->l ∉ (mu o).blocks)(o:Obj)(h0:l<C.w0.heap.size) :
  St ⟨C.P,C.N,C.w0.putObj l o,C.wF,C.M,C.pin⟩ σ mu a (w.putObj l o):=by
 have hoth:∀{w:World} k,k≠l->(w.putObj l o).heap[k]?=w.heap[k]?:=λk hk=>World.putObj_heap_other hk
 have ψ:=(BB.1 hl).1
 refine⟨⟨h.os.os,h.os.drawn⟩,h.tape,h.output,?_,λk hk hm=>?_,λp u hp=>?_,h.sz,?_,h.fr,λo2 ob ho=>?_,λo2 ob ho=>⟨(h.nd o2 ob ho).1,λb hb2=>?_⟩,h.sep,h.pins⟩
 ·rw[World.putObj_size,World.putObj_size];exact h.size
 ·have hk:k<C.w0.heap.size:=by rw[World.putObj_size]at hk;exact hk
  show(w.putObj l o).heap[k]?=(C.w0.putObj l o).heap[k]?
  by_cases e:k=l
  ·subst e
   rw[World.putObj_heap_same ψ,World.putObj_heap_same h0]
  ·rw[hoth k e,hoth k e];exact h.block k hk hm
 ·obtain⟨q1,q2⟩:=h.cells p u hp
  exact⟨q1,(Kc hl q2).2⟩
 ·obtain⟨rs,q1,q2,q3⟩:=h.df
  refine⟨rs,q1,q2,λr' hr=>?_⟩
  obtain⟨z1,z2,z3⟩:=q3 r' hr;refine⟨by rw[World.putObj_size];exact z1,?_,z3⟩
  rw[hoth r' (λe=>by rw[e,hl]at z2;cases z2)];exact z2
 ·exact(h.ob o2 ob ho).keep (co.refl _) λb hb2=>hoth b λe=>hb o2 ob ho (e ▸ hb2)
 ·rw[World.putObj_size];exact(h.nd o2 ob ho).2 b hb2
def TC(C2:Cx)(e:TypeId)(go:D7->D6->Bool)(hp hpx:D7->List (Nat×Option Ob))(pre:D7)(x:D6):Exit->Act->World->Prop:=λe1 a w=>match e1 with
 |.normal=>go pre x=true/\aD C2 ⟨[],(900,some (.ints e .i64 x))::hp (pre++[x])⟩ a w
 |.ret=>go pre x=false/\aD C2 ⟨[],(900,some (.ints e .i64 x))::hpx (pre++[x])⟩ a w
 |_=>False
def Kd(hp hpx:D7->List (Nat×Option Ob))(pre:D7):Bool->List (Nat×Option Ob)
 |true=>hp pre
 |false=>hpx pre
def dP(fn:FuncId)(tmps:Array Value)(ps:Array Tmp)(assign body:Code)(D:Nat):Bool->Loop
 |true=>{ state:=.ready,pending:=none,fn,tmps,params:=ps,assign,body,defers:=D }
 |false=>{ state:=.done,pending:=some .ret,fn,tmps,params:=ps,assign,body,defers:=D }
def mC(P:Program)(pin:Nat->Option Img)(wF:World)(fr:List (Nat×SV))(hp hpx:D7->List (Nat×Option Ob))(tmps:Array Value)(rec:Bool->Loop)(l D:Nat)(pre:D7)(b:Bool)(W:World)(S:List Nat):Prop :=
 l∈S/\D∈S/\W.heap[l]?=some (.loop (rec b))/\W.heap[D]?=some (.deferred (some []))/\∃wG mu,bU wF wG/\(∀q u,wG.cell? q=some u->wF.cell? q=some u\/(q.block∈S/\W.cell? q=some u))/\StB P pin ⟨fr,Kd hp hpx pre b⟩ mu tmps wG W (λk=>k∈S/\k≠l/\k≠D)
def aA3{P:Program}{pin:Nat->Option Img}{wF:World}{fr:List (Nat×SV)}{hp hpx:D7->List (Nat×Option Ob)}{tmps:Array Value}{rec:Bool->Loop}{l D:Nat}{pre:D7}{b:Bool}{W W':World}{S:List Nat}
  (h:mC P pin wF fr hp hpx tmps rec l D pre b W S)(hk:∀k∈S,W'.heap[k]?=W.heap[k]?):mC P pin wF fr hp hpx tmps rec l D pre b W' S:=by
 obtain⟨h1,h2,h3,h4,wG,mu,h5,h6,h7⟩:=h;refine⟨h1,h2,by rw[hk l h1];exact h3,by rw[hk D h2];exact h4,wG,mu,h5,λq u hq=>(h6 q u hq).imp id λ⟨z1,z2⟩=>⟨z1,?_⟩,h7.world λk hk2=>hk k hk2.1⟩
 rw[World.cell?_of_block (hk q.block z1)];exact z2
def aA4{pinl:List Nat}(hpins:∀o m,C.pin o=some m->o∈pinl){pt:Nat}{assign body:Code}
  {e:TypeId}{go:D7->D6->Bool}{ok:D7->D6->Prop}{bx:List Nat}{fr:List (Nat×SV)}{hp hpx:D7->List (Nat×Option Ob)}(hfr:oa bx fr=true)(hhp:∀pre,ja bx (hp pre)=true/\ja bx (hpx pre)=true)
  {tmps:Array Value}(hsz:tmps.size=C.N)(hpt:pt<C.N){fnn:FuncId}{D:Nat}
  (hbody:∀pre x,ok pre x->∀(l:Nat) (C1:Cx),C1.P=C.P->C1.N=C.N->(∀o m,C1.pin o=some m->o∈900::(bx++pinl))->∀a w,aD C1 ⟨(pt,.c (.own 900))::fr,(900,some (.ints e .i64 x))::hp pre⟩ a w ->
   assign.wpIn (eP (some l)) 0 C.P (Exit.then (λa1 ep=>∃σ1,aD C1 σ1 a1 ep/\∀(C2:Cx),C2.P=C.P->C2.N=C.N->(∀o m,C2.pin o=some m->o∈900::(bx++pinl))->∀a w,aD C2 σ1 a w->body.wpIn (eP (some l)) 0 C.P (TC C2 e go hp hpx pre x) a w) (λ_ _ _=>False)) a w)
  {l:Nat}(hlD:l≠D){pre:D7}{x:D6}{W:World}{S:List Nat}{v:Value}(hJ:mC C.P C.pin C.wF fr hp hpx tmps (dP fnn tmps #[pt] assign body D) l D pre true W S)(hok:ok pre x)(hSn:S.Nodup)(hSl:∀k∈S,k<W.heap.size)(hv1:v.oneCell'=true)
  (hrow:W.ownsRow 0 e 1 v x.length (x.map (.int .i64)))(hvS:∀k∈S,ag v≠some k)(hwF:∀p u,C.wF.cell? p=some u->W.cell? p=some u/\ag v≠some p.block) :
  YieldAt Fence.wide 0 C.P l #[v] W λr w'=>∃S',r=.returned (.bool (go pre x))/\mC C.P C.pin C.wF fr hp hpx tmps (dP fnn tmps #[pt] assign body D) l D (pre++[x]) (go pre x) w' S'/\S'.Nodup/\(∀k∈S,k∈S')/\(∀k∈S',(k∈S\/W.heap.size<=k)/\k<w'.heap.size) /\
   w'.ownsRow 0 e 1 v x.length (x.map (.int .i64))/\OsD W w'/\w'.tape=W.tape/\w'.output=W.output/\W.heap.size<=w'.heap.size/\∀k,k<W.heap.size->k ∉ S->ag v≠some k->w'.heap[k]?=W.heap[k]?:=by
 obtain⟨hlS,hDS,hrl,hrD,wG,mu,hk1,hk2,hB⟩:=hJ;have hwG:∀p u,wG.cell? p=some u->W.cell? p=some u/\ag v≠some p.block:=λp u hp'=>by
  rcases hk2 p u hp' with q|⟨q1,q2⟩
  ·exact hwF p u q
  ·exact⟨q2,hvS _ q1⟩
 have hB:StB C.P C.pin ⟨fr,hp pre⟩ mu tmps wG W (λk=>k∈S/\k≠l/\k≠D):=hB
 have hI:=hB.item (hhp pre).1 (pt:=pt) (by rw[hsz];exact hpt) (e:=e) (x:=x) hv1 hrow (λb hb=>hvS b hb.1) (λp u hp'=>(hwG p u hp').2)
 obtain⟨pin1,hpin1⟩:∃pin1:Nat->Option Img,pin1=λo=>if o=900 then some ⟨v,[]⟩else if cM o bx=false then some (mu o)else C.pin o:=⟨_,rfl⟩
 rw[<-hpin1]at hI;obtain⟨B1,hB1⟩:∃B1:Nat->Prop,B1=λb=>(b∈S/\b≠l/\b≠D)\/ag v=some b:=⟨_,rfl⟩
 rw[<-hB1]at hI;have hI2:=hI.st (N:=C.N) (by simp[hsz]) λp u hp'=>(hwG p u hp').1
 have hpl:∀o m,pin1 o=some m->o∈900::(bx++pinl):=λo m hm=>by
  rw[hpin1]at hm;simp only at hm;split at hm
  ·rename_i h9;subst h9;exact AZ
  ·split at hm
   ·rename_i hbx;exact AQ _ (BI _ (mB hbx))
   ·exact AQ _ (BH _ (hpins o m hm))
 have hlB:¬ B1 l:=λh=>by
  rw[hB1]at h;rcases h with h|h
  ·exact h.2.1 rfl
  ·exact hvS l hlS h
 have hDB:¬ B1 D:=λh=>by
  rw[hB1]at h;rcases h with h|h
  ·exact h.2.2 rfl
  ·exact hvS D hDS h
 have hlW:=hSl l hlS
 have hDW:=hSl D hDS
 have hy:=run_yield (P:=C.P) (args:=#[v]) hrl (by rfl)
 refine⟨fnn,_,assign,body,hy,?_⟩
 have hz:((dP fnn tmps #[pt] assign body D true).params.zip #[v]).foldl (λtmps (t,a)=>tmps.setIfInBounds t a) (dP fnn tmps #[pt] assign body D true).tmps=tmps.setIfInBounds pt v:=by
  show((#[pt]:Array Tmp).zip #[v]).foldl (λtmps (t,a)=>tmps.setIfInBounds t a) tmps=_
  simp
 rw[hz];refine roundIn_of_wpIn (F:=Fence.wide) (n:=0) trivial ?_
 refine wpIn_mono (hbody pre x hok l ⟨C.P,C.N,W,wG,B1,pin1⟩ rfl rfl hpl _ _ (St.ex hI2)) ?_
 intro e1 a1 ep hq
 cases e1 with
 |normal =>
  obtain⟨σ1,⟨wG1,mu1,hg1,hst1⟩,hnext⟩:=hq;have hw1l:ep.heap[l]?=some (.loop (dP fnn tmps #[pt] assign body D true)):=(hst1.block l hlW hlB).trans hrl
  have hln:∀o ob,σ1.H o=some (some ob)->l ∉ (mu1 o).blocks:=λo ob ho hb=>by
   rcases(hst1.nd o ob ho).2 l hb with q|q
   ·exact hlB q
   ·have q:W.heap.size<=l:=q
    omega
  refine⟨_,run_beginRound hw1l rfl,?_⟩
  have hst2:=hst1.putL hw1l hln (.loop { dP fnn tmps #[pt] assign body D true with state:=.busy }) hlW
  let C2:Cx:=⟨C.P,C.N,W.putObj l (.loop { dP fnn tmps #[pt] assign body D true with state:=.busy }),wG,B1,pin1⟩
  have hE2:aD ⟨C.P,C.N,W.putObj l (.loop { dP fnn tmps #[pt] assign body D true with state:=.busy }),wG,B1,pin1⟩ σ1 a1 (ep.putObj l (.loop { dP fnn tmps #[pt] assign body D true with state:=.busy })) :=
   ⟨wG1,mu1,⟨hg1.kept,λp u hp'=>(hg1.new p u hp').imp id (Or.imp (λq=>by show(W.putObj l _).heap.size<=_;rw[World.putObj_size];exact q) id)⟩,hst2⟩
  refine wpIn_mono (hnext C2 rfl rfl hpl _ _ hE2) ?_
  intro e2 a3 w3 hq2
  have fin:∀(b:Bool) (jump:Option Code) (hp':List (Nat×Option Ob)),hp'=Kd hp hpx (pre++[x]) b->ja bx hp'=true->go pre x=b->({ dP fnn tmps #[pt] assign body D true with state:=if jump.isNone then .ready else .done,pending:=jump }:Loop)=dP fnn tmps #[pt] assign body D b->jump.isNone=b ->
    aD ⟨C.P,C.N,W.putObj l (.loop { dP fnn tmps #[pt] assign body D true with state:=.busy }),wG,B1,pin1⟩ ⟨[],(900,some (.ints e .i64 x))::hp'⟩ a3 w3 ->
    ∃u w',(Instr.endRound l jump).run C.P w3=.ok u w'/\∃S',Ending.returned u=.returned (.bool (go pre x))/\mC C.P C.pin C.wF fr hp hpx tmps (dP fnn tmps #[pt] assign body D) l D (pre++[x]) (go pre x) w' S'/\S'.Nodup/\(∀k∈S,k∈S')/\(∀k∈S',(k∈S\/W.heap.size<=k)/\k<w'.heap.size) /\
     w'.ownsRow 0 e 1 v x.length (x.map (.int .i64))/\OsD W w'/\w'.tape=W.tape/\w'.output=W.output/\W.heap.size<=w'.heap.size/\∀k,k<W.heap.size->k ∉ S->ag v≠some k->w'.heap[k]?=W.heap[k]?:=by
   intro b jump hp' hhp' hok' hgo hrec hjump ⟨wG3,mu3,hg3,hst3⟩
   have hsz3:W.heap.size<=w3.heap.size:=by
    have this:(W.putObj l (.loop { dP fnn tmps #[pt] assign body D true with state:=.busy })).heap.size<=w3.heap.size:=hst3.size
    rwa[World.putObj_size]at this
   have hblk:∀k,k<W.heap.size->¬ B1 k->w3.heap[k]?=(W.putObj l (.loop { dP fnn tmps #[pt] assign body D true with state:=.busy })).heap[k]?:=λk hk hn=>hst3.block k (by show k<(W.putObj l _).heap.size;rw[World.putObj_size];exact hk) hn
   have hl3:w3.heap[l]?=some (.loop { dP fnn tmps #[pt] assign body D true with state:=.busy }):=(hblk l hlW hlB).trans (World.putObj_heap_same hlW)
   have hl3lt:l<w3.heap.size:=by omega
   have hD3:w3.heap[D]?=some (.deferred (some [])):=(hblk D hDW hDB).trans ((World.putObj_heap_other (λe=>hlD e.symm)).trans hrD)
   have ω:=run_endRound (P:=C.P) jump hl3
   rw[show({ ({ dP fnn tmps #[pt] assign body D true with state:=.busy }:Loop)with state:=if jump.isNone then .ready else .done,pending:=jump }:Loop)=dP fnn tmps #[pt] assign body D b from hrec,hjump]at ω
   refine⟨_,_,ω,?_⟩
   have hDone:=hB.done (hhp pre).1 hok' hfr hst3 hg3.kept (v:=v) (by rw[hpin1];rfl)
   obtain⟨hmu9,hB3⟩:=hDone;have hH9:(⟨[],(900,some (.ints e .i64 x))::hp'⟩:State).H 900=some (some (.ints e .i64 x)):=rfl
   let w4:=w3.putObj l (.loop (dP fnn tmps #[pt] assign body D b))
   have hoth:∀k,k≠l->w4.heap[k]?=w3.heap[k]?:=λk hk=>World.putObj_heap_other hk
   have hsz4:w4.heap.size=w3.heap.size:=World.putObj_size
   let S':=(List.range w4.heap.size).filter λk=>decide (k∈S)||decide (W.heap.size<=k)
   have hS':∀k,k∈S'↔k<w4.heap.size/\(k∈S\/W.heap.size<=k):=λk=>by simp[S']
   have hSS:∀k∈S,k∈S':=λk hk=>(hS' k).2 ⟨by rw[hsz4];have:=hSl k hk;omega,.inl hk⟩
   have hvl:ag v≠some l:=hvS l hlS
   have hkG3:bU wG wG3:=hg3.kept
   have hvb:∀k,ag v=some k->w4.heap[k]?=w3.heap[k]?:=λk hk=>hoth k λe=>hvl (e ▸ hk)
   refine⟨S',by rw[hgo],?_,Bl.filter _,hSS,λk hk=>⟨((hS' k).1 hk).2,((hS' k).1 hk).1⟩,?_,⟨hst3.os.os,hst3.os.drawn⟩,hst3.tape,hst3.output,by rw[hsz4];exact hsz3,λk hk hkS hkv=>?_⟩
   ·rw[hgo]
    refine⟨hSS l hlS,hSS D hDS,World.putObj_heap_same hl3lt,(hoth D (λe=>hlD e.symm)).trans hD3,wG3,mu3,λp u hp2=>hkG3 p u (hk1 p u hp2),λq u hq3=>?_,?_⟩
    ·have hc3:=(hst3.cells q u hq3).2
     have hc4:w4.cell? q=some u:=(Kc hl3 hc3).2
     have hlt3:=cell_lt' hc4
     rcases hg3.new q u hq3 with z|z|z
     ·rcases hk2 q u z with y|⟨y1,y2⟩
      ·exact .inl y
      ·exact .inr ⟨hSS _ y1,hc4⟩
     ·refine .inr ⟨(hS' _).2 ⟨hlt3,.inr ?_⟩,hc4⟩
      have z:(W.putObj l _).heap.size<=q.block:=z
      rwa[World.putObj_size]at z
     ·have z:B1 q.block:=z
      rw[hB1]at z;rcases z with z|z
      ·exact .inr ⟨hSS _ z.1,hc4⟩
      ·exfalso
       have:=(hst3.cells q u hq3).1 900 _ hH9
       rw[hmu9]at this;exact this (by simp[Img.blocks,z])
    ·rw[<-hhp']
     refine(hB3.world λk hk=>hoth k λe=>?_).blocks λo ob ho k hk hkb=>?_
     ·subst e
      rcases hk.1 with z|z
      ·exact hlB z
      ·have z:(W.putObj k _).heap.size<=k:=z
       rw[World.putObj_size]at z;omega
     ·obtain⟨z1,z2,z3⟩:=hkb
      have hne:k≠l/\k≠D:=by
       rcases z1 with z|z
       ·exact⟨λe=>hlB (e ▸ z),λe=>hDB (e ▸ z)⟩
       ·have z:(W.putObj l _).heap.size<=k:=z
        rw[World.putObj_size]at z;exact⟨λe=>by omega,λe=>by omega⟩
      refine⟨(hS' k).2 ⟨by rw[hsz4];exact z3,?_⟩,hne⟩
      rcases z1 with z|z
      ·have z:B1 k:=z
       rw[hB1]at z;rcases z with z|z
       ·exact .inl z.1
       ·exact absurd z z2
      ·have z:(W.putObj l _).heap.size<=k:=z
       rw[World.putObj_size]at z;exact .inr z
   ·have h9:=(hst3.ob 900 _ hH9).2
    rw[hmu9]at h9;exact ed h9 λb hb=>hvb b hb
   ·have hne:k≠l:=λe=>hkS (e ▸ hlS)
    rw[hoth k hne,hblk k hk λh=>?_,World.putObj_heap_other hne]
    rw[hB1]at h;rcases h with h|h
    ·exact hkS h.1
    ·exact hkv h
  cases e2 with
  |normal=>exact fin true none (hp (pre++[x])) rfl (hhp _).1 hq2.1 rfl rfl hq2.2
  |ret=>exact fin false (some .ret) (hpx (pre++[x])) rfl (hhp _).2 hq2.1 rfl rfl hq2.2
  |_=>exact hq2.elim
 |_=>exact hq.elim
def yF(k:Nat)(ds:List FC):gb k (ds.map .c)=ds.map dB/\lX k (ds.map .c)=[]:=by
 induction ds generalizing k with
 |nil=>exact⟨rfl,rfl⟩
 |cons d ds ih =>
  obtain⟨h1,h2⟩:=ih (k+1);exact⟨by show dB d::gb (k+1) (ds.map .c)=_;rw[h1];rfl,by show []++lX (k+1) (ds.map .c)=_;rw[h2];rfl⟩
def TD:∀{cps:List (Nat×List FC)} {i k:Nat} {x:Option Ob},lk (iT i (jK cps)) k=some x->∃j o ds,cps[j]?=some (o,ds)/\k=dq (i+j)/\x=some (.box (ds.map dB))
 | [],i,k,x,h=>by cases h
 |(o,ds)::cps,i,k,x,h=>by
  have h:lk (((dq i,some (.box (gb (dq i+1) (ds.map .c))))::lX (dq i+1) (ds.map .c))++iT (i+1) (jK cps)) k=some x:=h
  rw[(yF _ ds).1,(yF _ ds).2,Bk,BT,bv]at h;split at h
  ·rename_i e
   cases h;exact⟨0,o,ds,rfl,e.symm,rfl⟩
  ·obtain⟨j,o',ds',h1,h2,h3⟩:=TD h
   exact⟨j+1,o',ds',by simpa using h1,by rw[h2];unfold dq;omega,h3⟩
def TE:∀{cps:List (Nat×List FC)} {i j:Nat} {o:Nat} {ds:List FC},cps[j]?=some (o,ds)->lk (iT i (jK cps)) (dq (i+j))=some (some (.box (ds.map dB)))
 | [],i,j,o,ds,h=>by simp at h
 |(o',ds')::cps,i,j,o,ds,h=>by
  show lk (((dq i,some (.box (gb (dq i+1) (ds'.map .c))))::lX (dq i+1) (ds'.map .c))++iT (i+1) (jK cps)) (dq (i+j))=_
  rw[(yF _ ds').1,(yF _ ds').2,Bk,BT,bv];cases j with
  |zero =>
   simp only[CX,AC,BQ]at h;obtain⟨rfl,rfl⟩:=h;rw[AA (by rfl)]
  |succ j =>
   rw[AB (by unfold dq;omega),show i+(j+1)=i+1+j by omega]
   exact TE (by simpa using h)
def aA5{E E':Env}(hw:E'.wF=E.wF){ds:List FC}{arr:Array Value}(h:dp E (ds.map dB) arr):dp E' (ds.map dB) arr:=by
 refine⟨h.1,λi c hc=>?_⟩
 obtain⟨u,h1,h2,h3⟩:=h.2 i c hc;refine⟨u,h1,h2,?_⟩
 rw[Ak]at hc;cases hd:ds[i]? with
 |none=>rw[hd]at hc;cases hc
 |some d =>
  rw[hd]at hc;cases hc;exact SK h3 λ_ p u hp=>by rw[hw];exact hp
def aA6{f:FuncId}{ct:List AD->Option Post}(hf:Fits C.P f ⟨[(0,93),(0,93)],ct⟩){pinl:List Nat}(hpins:∀o m,C.pin o=some m->o∈pinl){t pt:Nat}{assign body:Code}
  {e:TypeId}{go:D7->D6->Bool}{ok:D7->D6->Prop}{bx:List Nat}{fr:List (Nat×SV)}{hp hpx:D7->List (Nat×Option Ob)}{cps:List (Nat×List FC)}
  (hchk:Ka C.N t pt bx pinl fr (hp []) cps=true)(hhp:∀pre,ja bx (hp pre)=true/\ja bx (hpx pre)=true){a:Act}{w:World}(hs:aD C ⟨(t,.fn f (oc cps))::fr,hp []++mA cps⟩ a w)
  (hbody:∀pre x,ok pre x->∀(l:Nat) (C1:Cx),C1.P=C.P->C1.N=C.N->(∀o m,C1.pin o=some m->o∈900::(bx++pinl))->∀a w,aD C1 ⟨(pt,.c (.own 900))::fr,(900,some (.ints e .i64 x))::hp pre⟩ a w ->
   assign.wpIn (eP (some l)) 0 C.P (Exit.then (λa1 ep=>∃σ1,aD C1 σ1 a1 ep/\∀(C2:Cx),C2.P=C.P->C2.N=C.N->(∀o m,C2.pin o=some m->o∈900::(bx++pinl))->∀a w,aD C2 σ1 a w->body.wpIn (eP (some l)) 0 C.P (TC C2 e go hp hpx pre x) a w) (λ_ _ _=>False)) a w)
  {Q:Exit->Act->World->Prop}
  (hfin:∀Y:YJ,Y.P=C.P->Y.e=e->Y.go=go->Y.ok=ok->p9 ct cps Y λxs b=>(b=true->∀a w,aD C ⟨fr,hp xs⟩ a w->Q .normal a w)/\(b=false->∀a w,aD C ⟨fr,hpx xs⟩ a w->Q .ret a w)) :
  (Code.rangeFunc (.tmp t) #[pt] assign body).wpIn (eP none) 0 C.P Q a w:=by
 obtain⟨wG0,mu0,hg0,h0⟩:=hs;obtain⟨⟨⟨⟨⟨hptN,hfrk⟩,hcn⟩,hcd⟩,htf⟩,hpl⟩:((((Nat.blt pt C.N=true/\oa bx fr=true)/\fG (cps.map (·.1))=true)/\(cps.all λp=>cM p.1 ((hp []).map (·.1)))=true)/\cM t (fr.map (·.1))=true)/\(pinl.all λp=>!(cM p ((hp []).map (·.1))))=true:=by
  unfold Ka at hchk;simp only[AO]at hchk;exact hchk
 have hptN:pt<C.N:=Nat.le_of_ble_eq_true hptN
 have hcn:=lw hcn
 have hcd:∀p∈cps,p.1 ∉ (hp []).map (·.1):=λp hp2=>jF (Ac.1 hcd p hp2)
 have htf:=jF htf
 have hpl:∀p∈pinl,p∈(hp []).map (·.1):=λp hp2=>mB (by simpa using Ac.1 hpl p hp2)
 obtain⟨arr,harr,hasz,hael⟩:=h0.fr t (.fn f (oc cps)) (by show lk ((t,_)::fr) t=_;rw[bv,AA rfl])
 obtain⟨fnF,k1,k2,k3⟩:=hf.fn;obtain⟨σP,hσP⟩:∃σP:State,σP=⟨(t,.fn f (oc cps))::fr,hp []++mA cps⟩:=⟨_,rfl⟩;rw[<-hσP]at h0 hael;have hHl:∀o,σP.H o=match lk (hp []) o with|some x=>some x|none=>lk (mA cps) o:=λo=>by
  rw[hσP]
  show lk (hp []++mA cps) o=_
  rw[gD];cases lk (hp []) o<;>rfl
 have hHp:∀o x,lk (hp []) o=some x->σP.H o=some x:=λo x ho=>by rw[hHl,ho]
 have hHc:∀o ds,(o,ds)∈cps->σP.H o=some (some (.box (ds.map dB))):=λo ds hm=>by
  rw[hHl];have:lk (hp []) o=none:=by
   cases hq:lk (hp []) o with
   |none=>rfl
   |some x=>exact absurd (AJ.2 ⟨_,n9 hq,rfl⟩) (hcd _ hm)
  rw[this];exact ye (l:=mA cps) (by rw[show(mA cps).map (·.1)=cps.map (·.1) by simp[mA,Function.comp_def]];exact hcn) (AJ.2 ⟨_,hm,rfl⟩)
 have hne:∀o x o' ds,lk (hp []) o=some x->(o',ds)∈cps->o≠o':=λo x o' ds h1 h2 e=>by
  subst e;exact hcd _ h2 (AJ.2 ⟨_,n9 h1,rfl⟩)
 have hcinj:∀(j j' o:Nat) (ds ds':List FC),cps[j]?=some (o,ds)->cps[j']?=some (o,ds')->j=j':=λj j' o ds ds' h1 h2=>by
  have q1:(cps.map (·.1))[j]?=some o:=by simp[h1]
  have q2:(cps.map (·.1))[j']?=some o:=by simp[h2]
  exact(DI (AL.1 q1).1 hcn).1 (q1.trans q2.symm)
 obtain⟨hk1,hk2⟩:=yE (hhp []).1;obtain⟨D,hD⟩:∃D,D=w.heap.size:=⟨_,rfl⟩;obtain⟨l,hl⟩:∃l,l=w.heap.size+1:=⟨_,rfl⟩;have hlD:l≠D:=by omega
 refine wpIn_rangeFunc (F:=eP none) ?_
 intro fnn _
 obtain⟨W1,hW1⟩:∃W1,W1=(w.alloc (.deferred (some []))).alloc (.loop (dP fnn a.tmps #[pt] assign body D true)):=⟨_,rfl⟩;have hsz1:W1.heap.size=w.heap.size+2:=by rw[hW1];simp
 have hold:∀b,b<w.heap.size->W1.heap[b]?=w.heap[b]?:=λb hb=>by
  rw[hW1,Below.heap_alloc _ _ _ (by simp;omega),Below.heap_alloc _ _ _ hb]
 have hrl1:W1.heap[l]?=some (.loop (dP fnn a.tmps #[pt] assign body D true)):=by
  have:=World.alloc_heap_new (w.alloc (.deferred (some []))) (.loop (dP fnn a.tmps #[pt] assign body D true))
  rw[World.size_alloc]at this;rw[hW1,hl];exact this
 have hrD1:W1.heap[D]?=some (.deferred (some [])):=by
  rw[hW1,hD];exact(Below.heap_alloc _ _ _ (by simp)).trans (World.alloc_heap_new w _)
 have hosd1:OsD w W1:=by
  have g1:=(f9 w (.deferred (some [])) none).os
  have g2:=(f9 (w.alloc (.deferred (some []))) (.loop (dP fnn a.tmps #[pt] assign body D true)) none).os
  rw[hW1];exact g2.trans g1
 have htp1:W1.tape=w.tape/\W1.output=w.output:=by
  rw[hW1];exact⟨(f9 (w.alloc (.deferred (some []))) _ none).tape.trans (f9 w _ none).tape,(f9 (w.alloc (.deferred (some []))) _ none).output.trans (f9 w _ none).output⟩
 have hB0:StB C.P C.pin ⟨fr,hp []⟩ mu0 a.tmps wG0 w (λb=>∃o ob,lk (hp []) o=some (some ob)/\b∈(mu0 o).blocks):=by
  have hst:∀o x,lk (hp []) o=some x->State.ost ⟨fr,hp []⟩ o=σP.ost o:=λo x ho=>by
   have h2:(⟨fr,hp []⟩:State).H o=some x:=ho
   simp only[State.ost,hHp o x ho,h2]
  refine⟨λp u hp2 o ob ho=>(h0.cells p u hp2).1 o ob (hHp o _ ho),λt' sv ht'=>?_,λo ob ho=>?_,λo ob ho=>⟨(h0.nd o ob (hHp o _ ho)).1,λb hb=>⟨o,ob,ho,hb⟩⟩,λo o' ob ob' hn ho ho'=>h0.sep o o' ob ob' hn (hHp o _ ho) (hHp o' _ ho'),λo m hm=>?_⟩
  ·have hF:σP.F t'=some sv:=by
    rw[hσP]
    show lk ((t,_)::fr) t'=some sv
    rw[bv,AB (by intro e9;subst e9;exact htf (AJ.2 ⟨_,n9 ht',rfl⟩))]
    exact ht'
   have h2:=h0.fr t' sv hF
   rcases Kb hfrk t' sv ht' with h3|⟨o,rfl,ho⟩
   ·exact h3 _ (σP.env wG0 mu0) _ _ (λ_ _ h=>h) h2
   ·obtain⟨c,cs,hl2⟩:=hk2 o ho
    refine⟨h2.1,?_⟩
    have h3:=h2.2
    rw[show(State.env ⟨fr,hp []⟩ wG0 mu0).st o=(σP.env (C.fz wG0).wF mu0).st o from hst o _ hl2]
    exact h3
  ·obtain⟨_,ob',z1,z2⟩:=hk1 o _ ho
   cases z1;exact TB (E:=σP.env wG0 mu0) (E':=(⟨fr,hp []⟩:State).env wG0 mu0) rfl (λo2 ho2=>by
    obtain⟨x2,hx2⟩:=mw ho2;exact⟨hst o2 x2 hx2,rfl⟩) z2 (h0.ob o ob (hHp o _ ho))
  ·have h2:=h0.pins o m hm
   obtain⟨x2,hx2⟩:=mw (hpl o (hpins o m hm));rw[hst o x2 hx2];exact h2
 classical
 obtain⟨S0,hS0⟩:∃S0:List Nat,S0=(List.range W1.heap.size).filter λb=>decide (b=l\/b=D\/∃o ob,lk (hp []) o=some (some ob)/\b∈(mu0 o).blocks):=⟨_,rfl⟩
 have hblt:∀o ob,σP.H o=some (some ob)->∀b∈(mu0 o).blocks,b<w.heap.size:=λo ob ho=>(h0.ob o ob ho).block
 have hS0i:∀b,b∈S0↔(b=l\/b=D\/∃o ob,lk (hp []) o=some (some ob)/\b∈(mu0 o).blocks):=λb=>by
  rw[hS0];simp only[Bc,Af,Ai];refine⟨λh=>h.2,λh=>⟨?_,h⟩⟩
  rcases h with h|h|⟨o,ob,h1,h2⟩
  ·omega
  ·omega
  ·have:=hblt o ob (hHp o _ h1) b h2;omega
 have hS0n:S0.Nodup:=by rw[hS0];exact Bl.filter _
 have hS0l:∀b∈S0,b<W1.heap.size:=λb hb=>by rw[hS0]at hb;simpa using(Bc.1 hb).1
 have hJ0:mC C.P C.pin wG0 fr hp hpx a.tmps (dP fnn a.tmps #[pt] assign body D) l D [] true W1 S0:=by
  refine⟨(hS0i l).2 (.inl rfl),(hS0i D).2 (.inr (.inl rfl)),hrl1,hrD1,wG0,mu0,λ_ _ h=>h,λq u hq=>.inl hq,?_⟩
  refine(hB0.world (W':=W1) λb hb=>?_).blocks λo ob ho b hb _=>?_
  ·obtain⟨o,ob,h1,h2⟩:=hb
   exact hold b (hblt o ob (hHp o _ h1) b h2)
  ·have:=hblt o ob (hHp o _ ho) b hb
   exact⟨(hS0i b).2 (.inr (.inr ⟨o,ob,ho,hb⟩)),by omega,by omega⟩
 obtain ⟨Y, hY⟩ : ∃ Y : YJ, Y = { P:=C.P,l,e,wF:=wG0,go,ok,J:=fun pre b W S=>mC C.P C.pin wG0 fr hp hpx a.tmps (dP fnn a.tmps #[pt] assign body D) l D pre b W S,
                                   loc:=λ_ _ _ _ _ h hk=>aA3 h hk,
                                   spec:=λpre x W S v hJ hok hSn hSl hv1 hrow hvS hwF=>aA4 (C:=C.fz wG0) hpins hfrk hhp h0.sz hptN hbody hlD hJ hok hSn hSl hv1 hrow hvS hwF }:=⟨_,rfl⟩
 have y1:Y.P=C.P:=by rw[hY]
 have y2:Y.l=l:=by rw[hY]
 have y3:Y.wF=wG0:=by rw[hY]
 have y4:∀pre b W S,Y.J pre b W S↔mC C.P C.pin wG0 fr hp hpx a.tmps (dP fnn a.tmps #[pt] assign body D) l D pre b W S:=λpre b W S=>by rw[hY]
 have hpost:=hfin Y y1 (by rw[hY]) (by rw[hY]) (by rw[hY])
 clear hY;unfold p9 at hpost;split at hpost
 ·rename_i q outs hct
  split at hpost
  ·rename_i v' Y' xs b rest
   obtain⟨hq,hYY,hR1,hR2⟩:=hpost;subst hYY;have srun:=hf.st rfl (.m (.ob (.yd 0 Y' [] true))::jK cps) q (.tup []) [] _ hct hq
   obtain⟨mas,hmas⟩:∃mas:List MA,mas=.m (.ob (.yd 0 Y' [] true))::jK cps:=⟨_,rfl⟩;rw[<-hmas]at srun;have hml:mas.length=cps.length+1:=by rw[hmas];simp[jK]
   have hHm:∀k,(fk mas).H k=if 7000=k then some (some (.yd 0 Y' [] true))else lk (iT 1 (jK cps)) k:=λk=>by
    rw[hmas]
    show lk ((7000,some (Ob.yd 0 Y' [] true))::iT 1 (jK cps)) k=_
    rw[bv]
   obtain⟨ydI,hydI⟩:∃ydI:Img,ydI=⟨.func (.yield l) #[] #[],S0.map λb=>.pointer (some ⟨b,0,none⟩)⟩:=⟨_,rfl⟩
   have hydB:ydI.blocks=S0:=by
    rw[hydI]
    show(ag (.func (.yield l) #[] #[])).toList++(S0.map λb=>Value.pointer (some ⟨b,0,none⟩)).filterMap ag=S0
    rw[List.filterMap_map]
    show []++S0.filterMap (λb=>some b)=S0
    simp
   obtain⟨muI,hmuI⟩:∃muI:Nat->Img,muI=λk=>if k=7000 then ydI else mu0 (((cps[(k-7100) / 100]?).map (·.1)).getD 0):=⟨_,rfl⟩
   have hmu7:muI 7000=ydI:=by rw[hmuI];rfl
   have hmuC:∀j o ds,cps[j]?=some (o,ds)->muI (dq (1+j))=mu0 o:=λj o ds hj=>by
    rw[hmuI]
    show(if dq (1+j)=7000 then ydI else mu0 (((cps[(dq (1+j)-7100) / 100]?).map (·.1)).getD 0))=_
    rw[AB (by unfold dq;omega),show(dq (1+j)-7100) / 100=j by unfold dq;omega,hj]
    rfl
   have hcase:∀k ob,(fk mas).H k=some (some ob)->(k=7000/\ob=.yd 0 Y' [] true)\/∃j o ds,cps[j]?=some (o,ds)/\k=dq (1+j)/\ob=.box (ds.map dB):=λk ob hk=>by
    rw[hHm]at hk;split at hk
    ·rename_i e7;cases hk;exact .inl ⟨e7.symm,rfl⟩
    ·obtain⟨j,o,ds,z1,z2,z3⟩:=TD hk
     cases z3;exact .inr ⟨j,o,ds,z1,z2,rfl⟩
   obtain⟨M,hM⟩:∃M:Nat->Prop,M=λb=>b∈S0\/∃o ds,(o,ds)∈cps/\b∈(mu0 o).blocks:=⟨_,rfl⟩
   have hst:St ⟨C.P,mas.length,W1,wG0,M,λ_=>none⟩ (fk mas) muI ⟨(Value.func (.yield l) #[] #[]::arr.toList).toArray,[]⟩ W1:=by
    refine⟨.refl _,rfl,rfl,AE _,λ_ _ _=>rfl,λp u hp2=>?_,?_,.nil,λt' sv ht'=>?_,λk ob hk=>?_,λk ob hk=>?_,λk k' ob ob' hn hk hk' b hb hb'=>?_,λo m hm=>by cases hm⟩
    ·obtain⟨z1,z2⟩:=h0.cells p u hp2
     have ψ:=cell_lt' z2
     refine⟨λk ob hk hb=>?_,by rw[World.cell?_of_block (hold _ ψ)];exact z2⟩
     rcases hcase k ob hk with⟨rfl,_⟩|⟨j,o,ds,q1,rfl,rfl⟩
     ·rw[hmu7,hydB]at hb
      rcases(hS0i _).1 hb with h|h|⟨o,ob2,h1,h2⟩
      ·omega
      ·omega
      ·exact z1 o ob2 (hHp o _ h1) h2
     ·rw[hmuC j o ds q1]at hb
      exact z1 o _ (hHc o ds (AK q1)) hb
    ·show(Value.func (.yield l) #[] #[]::arr.toList).toArray.size=mas.length
     simp[hml,hasz,oc]
    ·obtain⟨j,x,q1,q2,rfl⟩:=ya ht'
     rw[AI]at q2;subst q2;rw[hmas]at q1;cases t' with
     |zero =>
      simp only[CX,AC]at q1;subst q1;refine⟨rfl,?_⟩
      rw[show((fk mas).env wG0 muI).st (dq 0)=.live (Ob.yd 0 Y' [] true).shp from cz (σ:=fk mas) (o:=dq 0) (by rw[hHm];exact AA rfl)]
      show _=(muI 7000).hd
      rw[hmu7,hydI];rfl
     |succ j =>
      simp only[Bq,jK,Ak]at q1;cases hj:cps[j]? with
      |none=>rw[hj]at q1;cases q1
      |some od =>
       obtain⟨o,ds⟩:=od;rw[hj]at q1;simp only[Cm,AC]at q1;subst q1;obtain⟨u,z1,z2,z3⟩:=hael j (.ptr o 0) (by simp[oc,hj])
       have hgd:(Value.func (.yield l) #[] #[]::arr.toList).toArray.getD (j+1) undef=u:=by
        rw[BJ];simp[z1]
       show aA C.P _ (.c (.ptr (dq (j+1)) 0)) _
       rw[hgd];have hHo:=hHc o ds (AK hj)
       have z4:=z3.2
       rw[show(σP.env (C.fz wG0).wF mu0).st o=.live (Ob.box (ds.map dB)).shp from cz hHo]at z4
       have hHb:(fk mas).H (dq (j+1))=some (some (.box (ds.map dB))):=by
        rw[hHm,AB (by unfold dq;omega),show j+1=1+j by omega]
        exact TE hj
       refine⟨z2,?_⟩
       rw[show((fk mas).env wG0 muI).st (dq (j+1))=.live (Ob.box (ds.map dB)).shp from cz hHb]
       refine⟨z4.1,?_⟩
       show ∃b,ag (muI (dq (j+1))).hd=some b/\_
       rw[show j+1=1+j by omega,hmuC j o ds hj]
       exact z4.2
    ·rcases hcase k ob hk with⟨rfl,rfl⟩|⟨j,o,ds,q1,rfl,rfl⟩
     ·rw[hmu7]
      refine⟨by rw[hydI,y2],by rw[y3];exact λ_ _ h=>h,?_,by rw[hydB];exact hS0l⟩
      rw[hydB];exact(y4 _ _ _ _).2 hJ0
     ·rw[hmuC j o ds q1]
      obtain⟨b,arr2,ty,z1,z2,z3,z4⟩:=h0.ob o _ (hHc o ds (AK q1));refine⟨b,arr2,ty,z1,z2,?_,aA5 (E:=σP.env wG0 mu0) (E':=(fk mas).env wG0 muI) rfl z4⟩
      rw[hold b (BB.1 z3).1];exact z3
    ·rcases hcase k ob hk with⟨rfl,rfl⟩|⟨j,o,ds,q1,rfl,rfl⟩
     ·rw[hmu7,hydB]
      exact⟨hS0n,λb hb=>.inl (by show M b;rw[hM];exact .inl hb)⟩
     ·rw[hmuC j o ds q1]
      exact⟨(h0.nd o _ (hHc o ds (AK q1))).1,λb hb=>.inl (by show M b;rw[hM];exact .inr ⟨o,ds,AK q1,hb⟩)⟩
    ·have hyc:∀j o ds,cps[j]?=some (o,ds)->∀b∈S0,b ∉ (mu0 o).blocks:=λj o ds hj b hb hb'=>by
      have hHo:=hHc o ds (AK hj)
      have:=hblt o _ hHo b hb'
      rcases(hS0i _).1 hb with h|h|⟨o2,ob2,h1,h2⟩
      ·omega
      ·omega
      ·exact h0.sep o2 o ob2 _ (hne o2 _ o ds h1 (AK hj)) (hHp o2 _ h1) hHo b h2 hb'
     rcases hcase k ob hk with⟨rfl,rfl⟩|⟨j,o,ds,q1,rfl,rfl⟩
     ·rcases hcase k' ob' hk' with⟨rfl,rfl⟩|⟨j',o',ds',q1',rfl,rfl⟩
      ·exact hn rfl
      ·rw[hmu7,hydB]at hb;rw[hmuC j' o' ds' q1']at hb'
       exact hyc j' o' ds' q1' b hb hb'
     ·rcases hcase k' ob' hk' with⟨rfl,rfl⟩|⟨j',o',ds',q1',rfl,rfl⟩
      ·rw[hmu7,hydB]at hb';rw[hmuC j o ds q1]at hb
       exact hyc j o ds q1 b hb' hb
      ·rw[hmuC j o ds q1]at hb;rw[hmuC j' o' ds' q1']at hb'
       refine h0.sep o o' _ _ (λe9=>hn ?_) (hHc o ds (AK q1)) (hHc o' ds' (AK q1')) b hb hb'
       subst e9;rw[hcinj j j' o ds ds' q1 q1']
   have hMold:∀b,M b->b<w.heap.size->C.M b\/C.w0.heap.size<=b:=λb hb ψ=>by
    rw[hM]at hb;rcases hb with hb|⟨o,ds,h1,h2⟩
    ·rcases(hS0i _).1 hb with h|h|⟨o,ob2,h1,h2⟩
     ·omega
     ·omega
     ·exact(h0.nd o _ (hHp o _ h1)).2 b h2
    ·exact(h0.nd o _ (hHc o ds h1)).2 b h2
   have hw0:C.w0.heap.size<=w.heap.size:=h0.size
   have hMall:∀b,(M b\/W1.heap.size<=b)->C.M b\/C.w0.heap.size<=b:=λb hb=>by
    rcases hb with hb|hb
    ·by_cases ψ:b<w.heap.size
     ·exact hMold b hb ψ
     ·exact .inr (by omega)
    ·exact .inr (by omega)
   have hg:a.eval (.tmp t)=.func (.func f) #[] arr:=harr
   refine⟨l,[{ target:=.collected D,args:=#[] }],W1,{ target:=.fn (.func f) arr,args:=#[.func (.yield l) #[] #[]] },W1,f,#[.func (.yield l) #[] #[]]++arr,W1,?_,?_,λ_ _=>trivial,?_,λh=>(by cases h),?_⟩
   ·have:=run_enterLoop_outer (P:=C.P) (w:=w) fnn a.tmps #[pt] assign body
    rw[hl,hD,hW1,hD];exact this
   ·simp only[resolve,hg]
    simp[go_sem]
   ·simp[invoke,go_sem,pX k1 k2 k3]
   ·have hvsA:(Value.func (.yield l) #[] #[]::arr.toList).toArray=#[.func (.yield l) #[] #[]]++arr:=by apply A0;simp
    have hcalls:=srun ⟨C.P,mas.length,W1,wG0,M,λ_=>none⟩ muI (Value.func (.yield l) #[] #[]::arr.toList) W1 rfl rfl rfl (by simp[hml,hasz,oc]) (λo m hm=>by cases hm) hst
    rw[hvsA]at hcalls;refine(S7 (ro:=none) (n:=0-1)).2 (hcalls.mono ?_)
    rintro r W2 ⟨rv,rfl,wG2,mu2,hg2,hst2⟩
    have h7:(ju (.tup []) (iv 0 (.m (.ob (.yd v' Y' xs b))::rest)++iU [])).H 7000=some (some (.yd v' Y' xs b)):=rfl
    obtain⟨_,_,hJ2,hJ2l⟩:=hst2.ob 7000 _ h7;obtain⟨hn2,hm2⟩:=hst2.nd 7000 _ h7;obtain⟨S2,hS2⟩:∃S2,S2=(mu2 7000).blocks:=⟨_,rfl⟩;rw[<-hS2]at hJ2 hJ2l hn2 hm2;obtain⟨j1,j2,j3,j4,wG3,mu3,j5,j6,j7⟩:=(y4 _ _ _ _).1 hJ2;have hm2:∀k∈S2,C.M k\/C.w0.heap.size<=k:=λk hk=>hMall k (hm2 k hk)
    have hblk2:∀k,k<C.w0.heap.size->¬ C.M k->W2.heap[k]?=C.w0.heap[k]?:=λk hk hnM=>by
     have hMk:¬ M k:=λh=>by
      rcases hMold k h (by omega)with z|z
      ·exact hnM z
      ·omega
     rw[hst2.block k (by show k<W1.heap.size;omega) hMk]
     show W1.heap[k]?=_
     rw[hold k (by omega)]
     exact h0.block k hk hnM
    obtain⟨W3,hW3⟩:∃W3,W3=W2.putObj l (.loop { dP fnn a.tmps #[pt] assign body D b with state:=.exhausted }):=⟨_,rfl⟩
    have hoth:∀k,k≠l->W3.heap[k]?=W2.heap[k]?:=λk hk=>by rw[hW3];exact World.putObj_heap_other hk
    have hsz3:W3.heap.size=W2.heap.size:=by rw[hW3];exact World.putObj_size
    have hsz2:W1.heap.size<=W2.heap.size:=hst2.size
    have hWF2:∀p u,wG3.cell? p=some u->W2.cell? p=some u:=λp u hp2=>by
     rcases j6 p u hp2 with z|⟨_,z⟩
     ·exact(hst2.cells p u (hg2.kept p u z)).2
     ·exact z
    have hfinE:aD C ⟨fr,Kd hp hpx xs b⟩ { a with defers:=[{ target:=.collected D,args:=#[] }]++a.defers } W3:=by
     refine⟨wG3,mu3,⟨λp u hp2=>j5 p u (hg0.kept p u hp2),λp u hp2=>?_⟩,⟨?_,?_,?_,?_,λk hk hnM=>?_,λp u hp2=>⟨j7.apart p u hp2,?_⟩,h0.sz,?_,j7.fr,λo ob ho=>?_,λo ob ho=>⟨(j7.nd o ob ho).1,λk hk=>hm2 k ((j7.nd o ob ho).2 k hk).1⟩,j7.sep,j7.pins⟩⟩
     ·rcases j6 p u hp2 with z|⟨z,_⟩
      ·exact hg0.new p u z
      ·exact .inr (hm2 _ z).symm
     ·rw[hW3]
      have q1:=hst2.os.trans hosd1 |>.trans h0.os
      exact⟨q1.os,q1.drawn⟩
     ·rw[hW3];exact hst2.tape.trans (htp1.1.trans h0.tape)
     ·rw[hW3];exact hst2.output.trans (htp1.2.trans h0.output)
     ·show C.w0.heap.size<=W3.heap.size;rw[hsz3];omega
     ·have hk:k<C.w0.heap.size:=hk
      rw[hoth k (by omega)];exact hblk2 k hk hnM
     ·rw[hW3];exact(Kc j3 (hWF2 p u hp2)).2
     ·obtain⟨rs,r1,r2,r3⟩:=h0.df
      have ψ:∀r∈rs,r<w.heap.size:=λr hr=>(BB.1 (r3 r hr).2.1).1
      refine⟨D::rs,by simp[r1],Aa.2 ⟨λh=>by have:=ψ D h;omega,r2⟩,λr hr=>?_⟩
      rcases AG.1 hr with rfl|hr
      ·exact⟨by show C.w0.heap.size<=r;omega,by rw[hoth r (λe=>hlD e.symm)];exact j4,λo ob ho hb=>((j7.nd o ob ho).2 r hb).2.2 rfl⟩
      ·obtain⟨z1,z2,z3⟩:=r3 r hr
       have hrl:=ψ r hr
       have hMr:¬ M r:=λh=>by
        rw[hM]at h;rcases h with h|⟨o,ds,q1,q2⟩
        ·rcases(hS0i _).1 h with h|h|⟨o,ob2,q1,q2⟩
         ·omega
         ·omega
         ·exact z3 o ob2 (hHp o _ q1) q2
        ·exact z3 o _ (hHc o ds q1) q2
       have hr2:W2.heap[r]?=some (.deferred (some [])):=by
        rw[hst2.block r (by show r<W1.heap.size;omega) hMr]
        show W1.heap[r]?=_
        rw[hold r hrl];exact z2
       refine⟨z1,by rw[hoth r (by omega)];exact hr2,λo ob ho hb=>?_⟩
       have hS2r:=((j7.nd o ob ho).2 r hb).1
       rcases hst2.nd 7000 _ h7 |>.2 r (by rw[<-hS2];exact hS2r)with z|z
       ·exact hMr z
       ·have z:W1.heap.size<=r:=z
        omega
     ·exact(j7.ob o ob ho).keep (co.refl _) λk hk=>hoth k ((j7.nd o ob ho).2 k hk).2.1
    have ω:=run_endLoop (P:=C.P) j3 (by cases b<;>simp[dP])
    rw[<-hW3]at ω;refine⟨_,_,ω,?_⟩
    cases b with
    |true=>exact hR1 rfl _ _ hfinE
    |false=>exact wpIn_ret (hR2 rfl _ _ hfinE)
  ·exact hpost.elim
 ·exact hpost.elim
end
end Go.Sx
end
section
namespace Go.Sx
open Go.RowKit
inductive Ann where
 |mk (X:Type) (inv:X->State) (pre:X->Prop) (m:X->Nat) (sub:X->Nat->Option Ann)
 |peel (M:Nat) (X:Type) (inv:X->State) (pre:X->Prop) (m:X->Nat) (sub:X->Nat->Option Ann)
 |rf (e:TypeId) (go:D7->D6->Bool) (ok:D7->D6->Prop) (bx:List Nat) (fr:List (Nat×SV)) (hp hpx:D7->List (Nat×Option Ob))
def yG(f g:Nat->Option Ann)(n:Nat):Option Ann :=
 match f n with
 |some a=>some a
 |none=>g n
def gY(σ n:State)(pins:List Nat):Prop :=
 match J3 (To σ n) n pins with
 |none=>False
 |some ps=>gh ps
structure Kn where
 P:Program
 Γ:FuncId->Option Ctr
 wr:Nat->Bool
 N:Nat
 pins:List Nat
 rd:Bool
def TF:Code->Option Nat
 |.region id _ _=>some id
 |.seq a _=>TF a
 |_=>none
def aA7(ann:Nat->Option Ann)(b:Code):Option Ann:=match TF b with
 |some r=>ann (r+1000)
 |none=>none
def Kn.rnd(k:Kn)(bx:List Nat):Kn:=⟨k.P,k.Γ,k.wr,k.N,900::(bx++k.pins),true⟩
def aA8(e:TypeId)(go:D7->D6->Bool)(hp hpx:D7->List (Nat×Option Ob))(pins:List Nat)(pre:D7)(x:D6):Exit->State->Prop:=λe1 σ=>match e1 with
 |.normal=>go pre x=true/\gY σ ⟨[],(900,some (.ints e .i64 x))::hp (pre++[x])⟩ pins
 |.ret=>go pre x=false/\gY σ ⟨[],(900,some (.ints e .i64 x))::hpx (pre++[x])⟩ pins
 |_=>False
def eQ(k:Kn):Code->Nat->(Nat->Option Ann)->State->(Exit->State->Prop)->Prop
 |.skip,_,_,σ,K=>K .normal σ
 |.label _,_,_,σ,K=>K .normal σ
 |.ret,_,_,σ,K=>K .ret σ
 |.exit id,_,_,σ,K=>K (.exit id) σ
 |.region _ ops draw,_,_,σ,K=>match draw with
  |false=>lA k.P k.Γ k.wr k.N ops ops.toList 0 σ [] fun σ' _=>K .normal σ'
  |true=>match k.P.follows .mixedOrders with
   |true=>lA k.P k.Γ k.wr k.N ops ops.toList 0 σ [] fun σ' es=>match JU ops.toList es with
    |true=>K .normal σ'
    |false=>False
   |false=>False
 |.seq a b,_,ann,σ,K=>match aA7 ann b with
  |some (.mk _ inv pre _ sub)=>(eQ k a 0 ann σ λe σ'=>match e with
   |.normal=>∃x,pre x/\gY σ' (inv x) k.pins
   |e=>K e σ')/\∀x,pre x->eQ k b 0 (yG (sub x) ann) (inv x) K
  |_=>eQ k a 0 ann σ λe σ'=>match e with
   |.normal=>eQ k b 0 ann σ' K
   |e=>K e σ'
 |.cond c a b,_,ann,σ,K=>match c with
  |.tmp t=>match σ.F t with
   |some (.c (.bool x))=>ab x (eQ k a 0 ann σ K) (eQ k b 0 ann σ K)
   |_=>False
  |_=>False
 |.block id c,_,ann,σ,K=>eQ k c id ann σ λe σ'=>match e with
  |.exit id'=>match Nat.beq id' id with
   |true=>K .normal σ'
   |false=>K (.exit id') σ'
  |e=>K e σ'
 |.loop c,cur,ann,σ,K=>match ann cur with
  |none=>False
  |some (.mk _ inv pre m sub)=>(∃x,pre x/\gY σ (inv x) k.pins)/\∀x,pre x->eQ k c 0 (yG (sub x) ann) (inv x) λe σ'=>match e with
   |.normal=>∃x',pre x'/\m x'<m x/\gY σ' (inv x') k.pins
   |e=>K e σ'
  |some (.rf _ _ _ _ _ _ _)=>False
  |some (.peel M _ inv pre m sub)=>(eQ k c 0 ann σ λe σ'=>match e with
   |.normal=>∃x',pre x'/\m x'<M/\gY σ' (inv x') k.pins
   |e=>K e σ')/\∀x,pre x->eQ k c 0 (yG (sub x) ann) (inv x) λe σ'=>match e with
   |.normal=>∃x',pre x'/\m x'<m x/\gY σ' (inv x') k.pins
   |e=>K e σ'
 |.rangeFunc g ps assign body,cur,ann,σ,K=>match k.rd with
  |true=>False
  |false=>match ann cur with
   |some (.rf e go ok bx fr hp hpx)=>match g,ps.toList with
    |.tmp t,[pt]=>match σ.F t with
     |some (.fn f caps)=>match TA σ caps with
      |none=>False
      |some cps=>match k.Γ f with
       |some ⟨[(0,93),(0,93)],ct⟩=>match Ka k.N t pt bx k.pins fr (hp []) cps with
        |false=>False
        |true=>(∀pre,ja bx (hp pre)=true/\ja bx (hpx pre)=true) /\
         gY σ ⟨(t,.fn f (oc cps))::fr,hp []++mA cps⟩ k.pins /\
         (∀pre x,ok pre x->eQ (k.rnd bx) assign 0 ann ⟨(pt,.c (.own 900))::fr,(900,some (.ints e .i64 x))::hp pre⟩ λe1 σ1=>match e1 with
          |.normal=>eQ (k.rnd bx) body 0 ann σ1 (aA8 e go hp hpx (900::(bx++k.pins)) pre x)
          |_=>False) /\
         ∀Y:YJ,Y.P=k.P->Y.e=e->Y.go=go->Y.ok=ok->p9 ct cps Y λxs b=>(b=true->K .normal ⟨fr,hp xs⟩)/\(b=false->K .ret ⟨fr,hpx xs⟩)
       |_=>False
     |_=>False
    |_,_=>False
   |_=>False
 |_,_,_,_,_=>False
section
variable {C:Cx}
def Ke(C:Cx)(K:Exit->State->Prop):Exit->Act->World->Prop:=λe a w=>∃σ',aD C σ' a w/\K e σ'
def aA9{σ:State}{a:Act}{w:World}(h:aD C σ a w):aD C σ a { w with drawn:=w.drawn+1 }:=by
 obtain⟨wG,mu,hg,q⟩:=h;exact⟨wG,mu,hg,⟨q.os.os,Nat.le_succ_of_le q.os.drawn⟩,q.tape,q.output,q.size,q.block,q.cells,q.sz,q.df,q.fr,λo ob ho=>(q.ob o ob ho).keep (co.refl _) (λ_ _=>rfl),q.nd,q.sep,q.pins⟩
def TG{F:Fence}{n:Nat}{P:Program}{Q:Exit->Act->World->Prop}{a:Act}{w:World}{c:Code}(I:Nat->Act->World->Prop)(n₀:Nat)(h₀:I n₀ a w)
  (round:∀k a w,I k a w->c.wpIn F n P (Exit.then (λa' w'=>∃n',n'<k/\I n' a' w') Q) a w):(Code.loop c).wpIn F n P Q a w:=by
 refine wpIn_loop (λa w=>∃n,I n a w) (λa w=>leastOf (λn=>I n a w)) ⟨n₀,h₀⟩ ?_
 intro a w hI
 refine wpIn_mono (round _ a w (leastOf_spec hI).1) ?_
 intro e a' w' hq
 cases e with
 |normal =>
  obtain⟨n',ψ,hI'⟩:=hq;exact show(∃n,I n a' w')/\leastOf (λn=>I n a' w')<leastOf (λn=>I n a w) from⟨⟨n',hI'⟩,Nat.lt_of_le_of_lt ((leastOf_spec ⟨n',hI'⟩).2 n' hI') ψ⟩
 |exit id=>exact hq
 |goto l=>exact hq
 |ret=>exact hq
 |panic ch=>exact hq
 |outgrown=>exact hq
def mD{pins:List Nat}(hpins:∀o m,C.pin o=some m->o∈pins){σ n:State}{a:Act}{w:World}(h1:gY σ n pins)(h2:aD C σ a w):aD C n a w:=by
 unfold gY at h1;split at h1
 ·exact h1.elim
 ·rename_i ps hps
  exact Tv hpins hps h1 (Tz h2)
def aB0{ct:List AD->Option Post}{cps:List (Nat×List FC)}{Y:YJ}{R R':D7->Bool->Prop}(h:p9 ct cps Y R)(hr:∀xs b,R xs b->R' xs b):p9 ct cps Y R':=by
 unfold p9 at h⊢;split at h
 ·split at h
  ·exact⟨h.1,h.2.1,hr _ _ h.2.2⟩
  ·exact h.elim
 ·exact h.elim
def aB1(c:Code):∀{C:Cx} {ro:Option Nat} {k:Kn} (hP:k.P=C.P) (hΓ:dj C.P k.Γ) (hN:k.N=C.N) (hpins:∀o m,C.pin o=some m->o∈k.pins) (hrd:k.rd=false->ro=none)
  (cur:Nat) (ann:Nat->Option Ann) (σ:State) (K:Exit->State->Prop),eQ k c cur ann σ K->∀a w,aD C σ a w->c.wpIn (eP ro) 0 C.P (Ke C K) a w:=by
 induction c with
 |skip=>intro C ro k hP hΓ hN hpins hrd cur ann σ K h a w hs;exact wpIn_skip ⟨σ,hs,h⟩
 |label l=>intro C ro k hP hΓ hN hpins hrd cur ann σ K h a w hs;exact wpIn_label ⟨σ,hs,h⟩
 |ret=>intro C ro k hP hΓ hN hpins hrd cur ann σ K h a w hs;exact wpIn_ret ⟨σ,hs,h⟩
 |exit id=>intro C ro k hP hΓ hN hpins hrd cur ann σ K h a w hs;exact wpIn_exit ⟨σ,hs,h⟩
 |region id ops draw =>
  intro C ro k hP hΓ hN hpins hrd cur ann σ K h a w hs
  simp only[eQ]at h;rw[hP,hN]at h;split at h
  ·obtain⟨es,σ',h1,h2⟩:=JT hΓ ops.toList 0 σ [] (λj=>by simp) h
   refine wpIn_region ?_
   have:=az6 (ro:=ro) (Q:=Ke C K) h1 a w hs (λa w hs'=>⟨σ',hs',h2⟩)
   rw[DV,<-Do];exact this
  ·split at h
   ·rename_i hmix
    obtain⟨es,σ',h1,h2⟩:=JT hΓ ops.toList 0 σ [] (λj=>by simp) h
    rw[BT]at h2;split at h2
    ·rename_i hord
     obtain⟨prs,p1,p2,p3,p4⟩:=az7 h1;have hst:JW C ops σ prs es:=⟨p2,λi o eff e hi he=>by have:=p4 i o eff e hi he;rwa[AI]at this⟩
     refine wpIn_region_any hmix ?_
     refine az8 hst p1 hord (λa w hs'=>⟨σ',by rw[p3];exact hs',h2⟩) ops.size _ a _ (by simp) (λS hS hk=>J0 _ S hS λk hk'=>(hk k hk').1) (λj o _ hj=>?_) ?_
     ·exfalso
      by_cases hjs:j<ops.size<;>simp[Array.getD,hjs]at hj
     ·have:sub σ prs (λk=>(Array.replicate ops.size false).getD k false) prs.length=σ:=by
       have hall:∀n,sub σ prs (λk=>(Array.replicate ops.size false).getD k false) n=σ:=by
        intro n
        induction n with
        |zero=>rfl
        |succ n ih =>
         have hf:(Array.replicate ops.size false).getD n false=false:=by
          by_cases hn:n<ops.size<;>simp[Array.getD,hn]
         simp only[sub,ih,hf];split<;>rfl
       exact hall _
      rw[this];exact aA9 hs
    ·exact h2.elim
   ·exact h.elim
 |seq x y ihx ihy =>
  intro C ro k hP hΓ hN hpins hrd cur ann σ K h a w hs
  simp only[eQ]at h;split at h
  ·obtain⟨h1,h2⟩:=h
   refine wpIn_seq (wpIn_mono (ihx hP hΓ hN hpins hrd 0 ann σ _ h1 a w hs) ?_)
   rintro e a' w' ⟨σ',hs',hk⟩
   cases e with
   |normal =>
    obtain⟨x0,p1,p2⟩:=hk;exact ihy hP hΓ hN hpins hrd 0 _ _ K (h2 x0 p1) a' w' (mD hpins p2 hs')
   |_=>exact⟨σ',hs',hk⟩
  ·refine wpIn_seq (wpIn_mono (ihx hP hΓ hN hpins hrd 0 ann σ _ h a w hs) ?_)
   rintro e a' w' ⟨σ',hs',hk⟩
   cases e with
   |normal=>exact ihy hP hΓ hN hpins hrd 0 ann σ' K hk a' w' hs'
   |_=>exact⟨σ',hs',hk⟩
 |cond c x y ihx ihy =>
  intro C ro k hP hΓ hN hpins hrd cur ann σ K h a w hs
  simp only[eQ]at h;split at h
  ·rename_i t
   split at h
   ·rename_i b hb
    have hv:a.eval (.tmp t)=.bool b:=by
     obtain⟨wG,mu,hg,q⟩:=hs;exact q.fr t _ hb
    refine wpIn_cond_split hv (λhbt=>?_) (λhbf=>?_)
    ·subst hbt;exact ihx hP hΓ hN hpins hrd 0 ann σ K h a w hs
    ·subst hbf;exact ihy hP hΓ hN hpins hrd 0 ann σ K h a w hs
   ·exact h.elim
  ·exact h.elim
 |block id c ih =>
  intro C ro k hP hΓ hN hpins hrd cur ann σ K h a w hs
  simp only[eQ]at h;refine wpIn_block (wpIn_mono (ih hP hΓ hN hpins hrd id ann σ _ h a w hs) ?_)
  rintro e a' w' ⟨σ',hs',hk⟩
  cases e with
  |exit id' =>
   simp only at hk;simp only[Exit.inBlock];split at hk
   ·rename_i hid
    rw[AA (AY hid)];exact⟨σ',hs',hk⟩
   ·rename_i hid
    rw[AB (CH hid)];exact⟨σ',hs',hk⟩
  |_=>exact⟨σ',hs',hk⟩
 |loop c ih =>
  intro C ro k hP hΓ hN hpins hrd cur ann σ K h a w hs
  simp only[eQ]at h;split at h
  ·exact h.elim
  ·rename_i X inv pre m sub _
   obtain⟨⟨x0,hx0,hsub⟩,hround⟩:=h;refine TG (λn a w=>∃x,pre x/\m x=n/\aD C (inv x) a w) (m x0) ⟨x0,hx0,rfl,mD hpins hsub hs⟩ ?_
   rintro n a w ⟨x,hx,rfl,hst⟩
   refine wpIn_mono (ih hP hΓ hN hpins hrd 0 _ (inv x) _ (hround x hx) a w hst) ?_
   rintro e a' w' ⟨σ',hs',hk⟩
   cases e with
   |normal =>
    obtain⟨x',h1,h2,h3⟩:=hk;exact⟨m x',h2,x',h1,rfl,mD hpins h3 hs'⟩
   |_=>exact⟨σ',hs',hk⟩
  ·exact h.elim
  ·rename_i M X inv pre m sub _
   obtain⟨hfst,hround⟩:=h;refine TG (λn a w=>(n=M/\aD C σ a w)\/∃x,pre x/\m x=n/\aD C (inv x) a w) M (.inl ⟨rfl,hs⟩) ?_
   rintro n a w (⟨rfl,hst⟩|⟨x,hx,rfl,hst⟩)
   ·refine wpIn_mono (ih hP hΓ hN hpins hrd 0 _ σ _ hfst a w hst) ?_
    rintro e a' w' ⟨σ',hs',hk⟩
    cases e with
    |normal =>
     obtain⟨x',h1,h2,h3⟩:=hk;exact⟨m x',h2,.inr ⟨x',h1,rfl,mD hpins h3 hs'⟩⟩
    |_=>exact⟨σ',hs',hk⟩
   ·refine wpIn_mono (ih hP hΓ hN hpins hrd 0 _ (inv x) _ (hround x hx) a w hst) ?_
    rintro e a' w' ⟨σ',hs',hk⟩
    cases e with
    |normal =>
     obtain⟨x',h1,h2,h3⟩:=hk;exact⟨m x',h2,.inr ⟨x',h1,rfl,mD hpins h3 hs'⟩⟩
    |_=>exact⟨σ',hs',hk⟩
 |rangeFunc g ps assign body iha ihb =>
  intro C ro k hP hΓ hN hpins hrd cur ann σ K h a w hs
  simp only[eQ]at h;split at h
  ·exact h.elim
  ·rename_i hrdF
   have hro:=hrd hrdF
   subst hro;split at h
   ·rename_i e go ok bx fr hp hpx _
    split at h
    ·rename_i t pt hps
     split at h
     ·rename_i f caps hF
      split at h
      ·exact h.elim
      ·rename_i cps hcps
       split at h
       ·rename_i ct hct
        split at h
        ·exact h.elim
        ·rename_i hchk
         obtain⟨h1,h2,h3,h4⟩:=h;have hps':ps=#[pt]:=by apply A0;exact hps
         subst hps';rw[hN]at hchk;refine aA6 (e:=e) (go:=go) (ok:=ok) (hΓ f _ hct) hpins hchk h1 (mD hpins h2 hs) (λpre x hok l C1 e1 e2 hp1 a w hs1=>?_) λY q1 q2 q3 q4=>?_
         ·have:=iha (C:=C1) (ro:=some l) (k:=k.rnd bx) (hP.trans e1.symm) (by rw[e1];exact hΓ) (hN.trans e2.symm) hp1 (λh=>by cases h) 0 ann _ _ (h3 pre x hok) a w hs1
          rw[e1]at this;refine wpIn_mono this ?_
          rintro e3 a1 ep ⟨σ1,hs2,hK⟩
          cases e3 with
          |normal =>
           refine⟨σ1,hs2,λC2 z1 z2 z3 a w hs3=>?_⟩
           have:=ihb (C:=C2) (ro:=some l) (k:=k.rnd bx) (hP.trans z1.symm) (by rw[z1];exact hΓ) (hN.trans z2.symm) z3 (λh=>by cases h) 0 ann _ _ hK a w hs3
           rw[z1]at this;refine wpIn_mono this ?_
           rintro e4 a2 w2 ⟨σ2,hs4,hK2⟩
           cases e4 with
           |normal=>exact⟨hK2.1,mD z3 hK2.2 hs4⟩
           |ret=>exact⟨hK2.1,mD z3 hK2.2 hs4⟩
           |_=>exact hK2.elim
          |_=>exact hK.elim
         ·refine aB0 (h4 Y (q1.trans hP.symm) q2 q3 q4) λxs b ⟨z1,z2⟩=>⟨λhb a w hs=>⟨_,hs,z1 hb⟩,λhb a w hs=>⟨_,hs,z2 hb⟩⟩
       ·exact h.elim
     ·exact h.elim
    ·exact h.elim
   ·exact h.elim
 |_=>intro C ro k hP hΓ hN hpins hrd cur ann σ K h;exact h.elim
def TH{ro:Option Nat}{k:Kn}(hP:k.P=C.P)(hΓ:dj C.P k.Γ)(hN:k.N=C.N)(hpins:∀o m,C.pin o=some m->o∈k.pins)(c:Code)(cur:Nat)(ann:Nat->Option Ann)(σ:State)(K:Exit->State->Prop)
  (h:eQ k c cur ann σ K)(a:Act)(w:World)(hs:aD C σ a w)(hrd:k.rd=false->ro=none:=by intro _;rfl):c.wpIn (eP ro) 0 C.P (Ke C K) a w:=aB1 c hP hΓ hN hpins hrd cur ann σ K h a w hs
end
end Go.Sx
end
