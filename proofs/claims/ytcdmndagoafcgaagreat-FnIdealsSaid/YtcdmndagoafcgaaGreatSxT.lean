/- SxQ SxR SxS SxT -/
import Derived.Test.YtcdmndagoafcgaaGreatSxP
section
namespace Go.Sx
open Go.RowKit
inductive KV where
 | f (x:Option SV)
 | h (x:Option (Option Ob))
def State.get (σ:State):Key→KV
 | .f t=>.f (σ.F t)
 | .h o=>.h (σ.H o)
theorem Rd.agree {α:Type} {σ σ':State}:∀(r:Rd α),(∀κ∈r.keys σ,σ'.get κ=σ.get κ)→r.run σ'=r.run σ
 | .ret x,_=>rfl
 | .fail,_=>rfl
 | .f t k,hh=>by
  have h1:σ'.F t=σ.F t:=by have:=hh (.f t) (by simp [Rd.keys]);simpa [State.get] using this
  simp only [Rd.run,h1];cases hF:σ.F t with
  | none=>rfl
  | some sv=>exact Rd.agree (k sv) fun κ hκ=>hh κ (by simp [Rd.keys,hF,hκ])
 | .h o k,hh=>by
  have h1:σ'.H o=σ.H o:=by have:=hh (.h o) (by simp [Rd.keys]);simpa [State.get] using this
  simp only [Rd.run,h1];cases hH:σ.H o with
  | none=>rfl
  | some x =>
   cases x with
   | none=>rfl
   | some ob=>exact Rd.agree (k ob) fun κ hκ=>hh κ (by simp [Rd.keys,hH,hκ])
 | .abs o k,hh=>by
  have h1:σ'.H o=σ.H o:=by have:=hh (.h o) (by simp [Rd.keys]);simpa [State.get] using this
  simp only [Rd.run,h1];cases hH:σ.H o with
  | none=>exact Rd.agree k fun κ hκ=>hh κ (by simp [Rd.keys,hκ])
  | some x=>rfl
theorem aN.ext {C:Cx} {σ σ':State} (h:∀κ,σ'.get κ=σ.get κ) {a:Act} {w:World} (hs:aN C σ a w):aN C σ' a w:=by
 have hF:∀t,σ'.F t=σ.F t:=fun t=>by have:=h (.f t);simpa [State.get] using this
 have hH:∀o,σ'.H o=σ.H o:=fun o=>by have:=h (.h o);simpa [State.get] using this
 exact aN.eqv hF hH hs
def ac (b:Bool) (A B:Prop):Prop :=
 match b with
 | true=>A
 | false=>B
def Mg (p:Option Prop) (A:Prop):Prop :=
 match p with
 | none=>A
 | some q=>q∧A
structure Ent where
 rd:List Key
 wr:List Key
def qD (N:Nat) (o:Oper):Bool :=
 match o.dst with
 | none=>true
 | some d=>Nat.blt d N
def gd (ops:Array Oper) (σ:State) (o:Oper):Option Bool :=
 match o.guard with
 | none=>some true
 | some (j,want)=>match ops[j]? with
  | none=>none
  | some oj=>match oj.dst with
   | none=>none
   | some t=>match σ.F t with
    | some (.c (.bool b))=>match b,want with
     | true,true=>some true
     | true,false=>some false
     | false,true=>some false
     | false,false=>some true
    | some (.c .und)=>some false
    | _=>none
def jN (ops:Array Oper) (o:Oper):List Key :=
 match o.guard with
 | none=>[]
 | some (j,_)=>match ops[j]? with
  | none=>[]
  | some oj=>match oj.dst with
   | none=>[]
   | some t=>[.f t]
def jp (o:Oper):List Key :=
 match o.dst with
 | none=>[]
 | some d=>[.f d]
def Mh (i:Nat) (d:Option Nat):List Oper→Bool
 | []=>false
 | o::rest=>(match o.guard with
   | some (j,_)=>Nat.beq j i
   | none=>false)||(match o.op,d with
   | .pick (.tmp t) _ _,some d=>Nat.beq t d
   | _,_=>false)||Mh i d rest
def jO (l:List (Nat×Option Ob)):List Key:=l.map fun p=>.h p.1
def kH (P:Program) (Γ:FuncId→Option Ctr) (wr:Nat→Bool) (N:Nat) (ops:Array Oper):List Oper→Nat→State→List Ent→(State→List Ent→Prop)→Prop
 | [],_,σ,es,K=>K σ es
 | o::rest,i,σ,es,K =>
  match qD N o with
  | false=>False
  | true=>match gd ops σ o with
   | none=>False
   | some false=>kH P Γ wr N ops rest (i+1) (σ.app o.dst ⟨.c .und,[],none⟩) (es++[⟨jN ops o,jp o⟩]) K
   | some true=>match (cS P Γ wr o).run σ with
    | none=>False
    | some ⟨val,hp,owed⟩=>Mg owed (match Mh i o.dst rest with
     | false=>kH P Γ wr N ops rest (i+1) (σ.app o.dst ⟨val,hp,none⟩) (es++[⟨jN ops o++(cS P Γ wr o).keys σ,jp o++jO hp⟩]) K
     | true=>match val with
      | .c (.bool b)=>ac b
        (kH P Γ wr N ops rest (i+1) (σ.app o.dst ⟨.c (.bool true),hp,none⟩) (es++[⟨jN ops o++(cS P Γ wr o).keys σ,jp o++jO hp⟩]) K)
        (kH P Γ wr N ops rest (i+1) (σ.app o.dst ⟨.c (.bool false),hp,none⟩) (es++[⟨jN ops o++(cS P Γ wr o).keys σ,jp o++jO hp⟩]) K)
      | _=>False)
def mN (C:Cx) (ops:Array Oper) (i:Nat) (o:Oper) (σ:State) (eff:Eff) (e:Ent):Prop :=
 (∀κ,κ ∉ e.wr→∀τ:State,(τ.app o.dst eff).get κ=τ.get κ)∧(∀κ∈e.wr,∀τ τ':State,(τ.app o.dst eff).get κ=(τ'.app o.dst eff).get κ) ∧
 ∀τ:State,(∀κ∈e.rd,τ.get κ=σ.get κ)→∀a w,aN C τ a w→∀Q,wpOp C.P ops Q i (fun a' w'=>aN C (τ.app o.dst eff) a' w') a w
inductive Run (C:Cx) (ops:Array Oper):List Oper→Nat→State→List Ent→State→Prop
 | nil {i:Nat} {σ:State}:Run C ops [] i σ [] σ
 | cons {o:Oper} {rest:List Oper} {i:Nat} {σ σ':State} {eff:Eff} {e:Ent} {es:List Ent} (h:mN C ops i o σ eff e) (t:Run C ops rest (i+1) (σ.app o.dst eff) es σ'):Run C ops (o::rest) i σ (e::es) σ'
section
variable {C:Cx}
theorem EN {σ:State} {dst:Option Nat} {eff:Eff} {κ:Key}:(σ.app dst eff).get κ=match κ with
  | .f t=>if dst=some t then .f (some eff.val) else σ.get (.f t)
  | .h o=>match lk eff.hp o with | some x=>.h (some x) | none=>σ.get (.h o):=by
 cases κ with
 | f t=>simp only [State.get,lu];split <;> rfl
 | h o =>
  simp only [State.get,kB];cases lk eff.hp o <;> rfl
theorem Mi {α:Type}:∀{l:List (Nat×α)} {o:Nat} {x:α},lk l o=some x→o∈l.map (·.1)
 | [],o,x,h=>by simp [lk] at h
 | (k,v)::l,o,x,h=>by
  rw [bC] at h;split at h
  ·rename_i hk;simp [hk]
  ·have:=Mi h;simp at this ⊢;exact .inr this
theorem Mj {α:Type}:∀{l:List (Nat×α)} {o:Nat},o∈l.map (·.1)→∃x,lk l o=some x
 | [],o,h=>by simp at h
 | (k,v)::l,o,h=>by
  rw [bC];by_cases hk:k=o
  ·exact ⟨v,by simp [hk]⟩
  ·rw [if_neg hk]
   have h:o=k∨o∈l.map (·.1):=by simpa using h
   exact Mj (h.resolve_left (Ne.symm hk))
theorem Mk {dst:Option Nat} {eff:Eff} {o:Oper} (hd:o.dst=dst) (rd:List Key) :
  (∀κ,κ ∉ (Ent.mk rd (jp o++jO eff.hp)).wr→∀τ:State,(τ.app dst eff).get κ=τ.get κ) ∧
  (∀κ∈(Ent.mk rd (jp o++jO eff.hp)).wr,∀τ τ':State,(τ.app dst eff).get κ=(τ'.app dst eff).get κ):=by
 constructor
 ·intro κ hκ τ
  simp only [List.mem_append,not_or] at hκ;rw [EN];cases κ with
  | f t =>
   have:¬ dst=some t:=fun hc=>hκ.1 (by simp [jp,hd,hc])
   simp only [this,if_false]
  | h x =>
   cases hx:lk eff.hp x with
   | none=>simp only [hx]
   | some y =>
    exfalso
    apply hκ.2
    have:=Mi hx
    simp only [jO,List.mem_map] at this ⊢;obtain ⟨p,hp,rfl⟩:=this;exact ⟨p,hp,rfl⟩
 ·intro κ hκ τ τ'
  rw [EN,EN];simp only [List.mem_append] at hκ;cases κ with
  | f t =>
   have:dst=some t:=by
    rcases hκ with h1 | h1
    ·unfold jp at h1
     rw [hd] at h1;cases dst with
     | none=>simp at h1
     | some d=>simp at h1;rw [h1]
    ·simp [jO] at h1
   simp only [this,if_true]
  | h x =>
   have hx:x∈eff.hp.map (·.1):=by
    rcases hκ with h1 | h1
    ·unfold jp at h1
     split at h1 <;> simp at h1
    ·simp only [jO,List.mem_map] at h1 ⊢
     obtain ⟨p,hp,h2⟩:=h1;cases h2;exact ⟨p,hp,rfl⟩
   obtain ⟨y,hy⟩:=Mj hx;simp only [hy]
theorem Ml {N:Nat} {o:Oper} (h:qD N o=true):∀d,o.dst=some d→d<N:=by
 intro d hd
 unfold qD at h;rw [hd] at h
 simpa using h
theorem Mm {ops:Array Oper} {o:Oper} {σ:State} {b:Bool} (hg:gd ops σ o=some b) {a:Act} {w:World} {mu:Nat→Img} (h:St C σ mu a w) :
  Region.wanted o (yielded ops a.tmps)=b:=by
 have yld:∀{j t:Nat} {oj:Oper} {v:Value},ops[j]?=some oj→oj.dst=some t→a.tmps.getD t undef=v→(∀c,v≠.bool c)→yielded ops a.tmps j=none:=fun {j t oj v} h3 h4 h1 h2=>by
  unfold yielded;rw [h3,Option.bind_some,h4,Option.bind_some];cases hx:a.tmps[t]? with
  | none=>rfl
  | some u =>
   have:u=v:=by rw [←h1];simp [Array.getD_eq_getD_getElem?,hx]
   subst this;cases u <;> first | rfl | exact absurd rfl (h2 _)
 have yldb:∀{j t:Nat} {oj:Oper} {c:Bool},ops[j]?=some oj→oj.dst=some t→a.tmps.getD t undef=.bool c→yielded ops a.tmps j=some c:=fun {j t oj c} h3 h4 h1=>by
  unfold yielded;rw [h3,Option.bind_some,h4,Option.bind_some];cases hx:a.tmps[t]? with
  | none=>simp [Array.getD_eq_getD_getElem?,hx,undef] at h1
  | some u =>
   have:u=.bool c:=by rw [←h1];simp [Array.getD_eq_getD_getElem?,hx]
   subst this;rfl
 unfold gd at hg;unfold Region.wanted;split at hg
 ·rename_i hn
  cases hg;rw [hn]
 ·rename_i j want hjw
  rw [hjw];split at hg
  ·cases hg
  ·rename_i oj hoj
   split at hg
   ·cases hg
   ·rename_i t ht
    split at hg
    ·rename_i c hc
     have hv:a.tmps.getD t undef=.bool c:=h.fr t _ hc
     simp only [yldb hoj ht hv];cases c <;> cases want <;> cases hg <;> rfl
    ·rename_i hc
     cases hg;have hv:a.tmps.getD t undef=undef:=h.fr t _ hc
     simp only [yld hoj ht hv (fun c hc=>by cases hc)]
     cases want <;> rfl
    ·cases hg
theorem Mn {ops:Array Oper} {o:Oper} {σ τ:State} (h:∀κ∈jN ops o,τ.get κ=σ.get κ):gd ops τ o=gd ops σ o:=by
 unfold gd;unfold jN at h;cases hg:o.guard with
 | none=>rfl
 | some p =>
  obtain ⟨j,want⟩:=p;rw [hg] at h;simp only at h ⊢;cases hj:ops[j]? with
  | none=>rfl
  | some oj =>
   rw [hj] at h;simp only at h ⊢;cases hd:oj.dst with
   | none=>rfl
   | some t =>
    rw [hd] at h;have:τ.F t=σ.F t:=by have:=h (.f t) (by simp);simpa [State.get] using this
    simp only [this]
theorem Xh {ops:Array Oper} {i:Nat} {o:Oper} {σ:State} (hi:ops[i]?=some o) (hd:qD C.N o=true) (hg:gd ops σ o=some false) :
  mN C ops i o σ ⟨.c .und,[],none⟩ ⟨jN ops o,jp o⟩:=by
 have hk:=Mk (eff:=⟨.c .und,[],none⟩) (dst:=o.dst) (o:=o) rfl (jN ops o)
 simp only [jO,List.map_nil,List.append_nil] at hk;refine ⟨hk.1,hk.2,fun τ hτ a w hs Q=>?_⟩
 obtain ⟨wG,mu,hgf,h⟩:=hs;have hw:=Mm (Mn hτ |>.trans hg) h
 unfold wpOp;rw [hi];simp only [hw];exact aN.up hgf (St.ex (h.put_pure (Ml hd) rfl rfl))
theorem EO {Γ:FuncId→Option Ctr} (hΓ:dE C.P Γ) {wr:Nat→Bool} {ops:Array Oper} {i:Nat} {o:Oper} {σ:State} {eff eff':Eff} (hi:ops[i]?=some o) (hd:qD C.N o=true) (hg:gd ops σ o=some true)
  (hr:(cS C.P Γ wr o).run σ=some eff) (hob:eff.obl) (hval:eff'.val=eff.val) (hhp:eff'.hp=eff.hp) :
  mN C ops i o σ eff' ⟨jN ops o++(cS C.P Γ wr o).keys σ,jp o++jO eff.hp⟩:=by
 have hk:=Mk (eff:=eff') (dst:=o.dst) (o:=o) rfl (jN ops o++(cS C.P Γ wr o).keys σ)
 rw [hhp] at hk;refine ⟨hk.1,hk.2,fun τ hτ a w hs Q=>?_⟩
 obtain ⟨wG,mu,hgf,h⟩:=hs;have hw:=Mm (Mn (fun κ hκ=>hτ κ (List.mem_append.2 (.inl hκ))) |>.trans hg) h
 have hrun:=(Rd.agree (cS C.P Γ wr o) fun κ hκ=>hτ κ (List.mem_append.2 (.inr hκ))).trans hr
 have happ:τ.app o.dst eff'=τ.app o.dst eff:=by simp [State.app,hval,hhp]
 unfold wpOp;rw [hi];simp only [hw,if_true];refine .inl ?_
 rw [happ];exact Oper.wp_mono (fun a w h=>aN.up hgf h) (Xg (C:=C.fz wG) hΓ hrun hob h (Ml hd) Q)
theorem Xi {p:Option Prop} {A:Prop} (h:Mg p A) {val:SV} {hp:List (Nat×Option Ob)}:(Eff.mk val hp p).obl∧A:=by
 cases p with
 | none=>exact ⟨trivial,h⟩
 | some q=>exact h
theorem EP {Γ:FuncId→Option Ctr} (hΓ:dE C.P Γ) {wr:Nat→Bool} {ops:Array Oper} {K:State→List Ent→Prop} :
  ∀(l:List Oper) (i:Nat) (σ:State) (es:List Ent),(∀j:Nat,l[j]?=ops[i+j]?)→kH C.P Γ wr C.N ops l i σ es K→∃es' σ',Run C ops l i σ es' σ'∧K σ' (es++es')
 | [],i,σ,es,_,h=>⟨[],σ,.nil,by rw [List.append_nil];exact h⟩
 | o::rest,i,σ,es,hl,h=>by
  have hi:ops[i]?=some o:=by have:=hl 0;simpa using this.symm
  have hl':∀j:Nat,rest[j]?=ops[i+1+j]?:=fun j=>by have:=hl (j+1);rw [show i+1+j=i+(j+1) by omega,←this];simp
  have go:∀(eff:Eff) (e:Ent),mN C ops i o σ eff e→kH C.P Γ wr C.N ops rest (i+1) (σ.app o.dst eff) (es++[e]) K→∃es' σ',Run C ops (o::rest) i σ es' σ'∧K σ' (es++es'):=fun eff e h1 h2=>by
   obtain ⟨es',σ',h3,h4⟩:=EP hΓ rest (i+1) _ _ hl' h2;exact ⟨e::es',σ',.cons h1 h3,by simpa using h4⟩
  unfold kH at h;split at h
  ·exact h.elim
  ·rename_i hd
   split at h
   ·exact h.elim
   ·rename_i hg
    exact go _ _ (Xh hi hd hg) h
   ·rename_i hg
    split at h
    ·exact h.elim
    ·rename_i val hp owed hr
     obtain ⟨hob,h2⟩:=Xi (val:=val) (hp:=hp) h;clear h;split at h2
     ·exact go _ _ (EO hΓ hi hd hg hr hob rfl rfl) h2
     ·split at h2
      ·rename_i b
       cases b with
       | true=>exact go _ _ (EO hΓ hi hd hg hr hob rfl rfl) h2
       | false=>exact go _ _ (EO hΓ hi hd hg hr hob rfl rfl) h2
      ·exact h2.elim
theorem Xj {P:Program} {ops:Array Oper} {Q:Exit→Act→World→Prop} {i:Nat} {rest:List Nat} {a:Act} {w:World} {K:Act→World→Prop} (h:wpOp P ops Q i K a w) (hk:∀a w,K a w→wpOps P ops Q rest a w) :
  wpOps P ops Q (i::rest) a w:=by
 rw [wpOps_cons];exact wpOp_mono hk h
theorem Xk {ops:Array Oper} {Q:Exit→Act→World→Prop}:∀{l:List Oper} {i:Nat} {σ σ':State} {es:List Ent},Run C ops l i σ es σ'→∀a w,aN C σ a w→(∀a w,aN C σ' a w→Q .normal a w) →
  wpOps C.P ops Q (List.range' i l.length) a w:=by
 intro l i σ σ' es h
 induction h with
 | nil=>intro a w hs hq;exact hq a w hs
 | cons h t ih =>
  intro a w hs hq
  rw [List.length_cons,List.range'_succ];exact Xj (h.2.2 _ (fun _ _=>rfl) a w hs Q) fun a w hs'=>ih a w hs' hq
end
end Go.Sx
end
section
namespace Go.Sx
open Go.RowKit
def kI (o:Oper):List Nat:=(o.after.toList.filter fun e=>Region.binds .any e).map (·.on)
def wV (acc:List Nat):List Nat→Nat→Nat
 | [],m=>m
 | k::ks,m=>wV acc ks ((m ||| (1 <<< k)) ||| acc.getD k 0)
def gH:List Oper→List Nat→List Nat
 | [],acc=>acc
 | o::l,acc=>gH l (acc++[wV acc (kI o) 0])
def oy:List Oper→Nat→Bool
 | [],_=>true
 | o::l,i=>(kI o).all (fun k=>Nat.blt k i)&&oy l (i+1)
def wW (κ:Key):List Key→Bool
 | []=>false
 | x::l=>Key.eq x κ||wW κ l
def oz:List Key→List Key→Bool
 | [],_=>false
 | κ::l,l'=>wW κ l'||oz l l'
def mO (e e':Ent):Bool:=oz e.wr e'.rd||oz e.wr e'.wr||oz e.rd e'.wr
def wX (e:Ent) (m:Nat):List Ent→Nat→Bool
 | [],_=>true
 | e'::l,i=>(!(mO e' e)||m.testBit i)&&wX e m l (i+1)
def qE:List Ent→List Ent→List Nat→Bool
 | _,[],_=>true
 | _,_::_,[]=>false
 | prev,e::es,m::ms=>wX e m prev 0&&qE (prev++[e]) es ms
def EQ (ops:List Oper) (es:List Ent):Bool:=oy ops 0&&qE [] es (gH ops [])
theorem Key.eq_self (a:Key):Key.eq a a=true:=by cases a <;> simp [Key.eq]
theorem Mo {κ:Key}:∀{l:List Key},κ∈l→wW κ l=true
 | [],h=>by simp at h
 | x::l,h=>by
  simp only [wW,Bool.or_eq_true];rcases List.mem_cons.1 h with rfl | h
  ·exact .inl (Key.eq_self _)
  ·exact .inr (Mo h)
theorem wY {κ:Key}:∀{l l':List Key},κ∈l→κ∈l'→oz l l'=true
 | [],_,h,_=>by simp at h
 | x::l,l',h,h'=>by
  simp only [oz,Bool.or_eq_true];rcases List.mem_cons.1 h with rfl | h
  ·exact .inl (Mo h')
  ·exact .inr (wY h h')
theorem wZ:∀{l:List Oper} {i:Nat},oy l i=true→∀(j:Nat) (o:Oper),l[j]?=some o→∀k∈kI o,k<i+j
 | [],_,_,j,o,h=>by simp at h
 | o'::l,i,h,j,o,hj=>by
  simp only [oy,Bool.and_eq_true] at h;cases j with
  | zero =>
   simp at hj;subst hj
   intro k hk
   have:=List.all_eq_true.1 h.1 k hk
   simpa using this
  | succ j =>
   intro k hk
   have:=wZ h.2 j o (by simpa using hj) k hk
   omega
theorem Mp {acc:List Nat} {i:Nat}:∀{ks:List Nat} {m:Nat},(wV acc ks m).testBit i=true→m.testBit i=true∨∃k∈ks,k=i∨(acc.getD k 0).testBit i=true
 | [],m,h=>.inl h
 | k::ks,m,h=>by
  have h:(wV acc ks ((m ||| (1 <<< k)) ||| acc.getD k 0)).testBit i=true:=h
  rcases Mp (ks:=ks) h with h1 | ⟨k',h1,h2⟩
  ·simp only [Nat.testBit_or,Bool.or_eq_true] at h1
   rcases h1 with (h1 | h1) | h1
   ·exact .inl h1
   ·rw [Nat.one_shiftLeft,Nat.testBit_two_pow] at h1
    exact .inr ⟨k,by simp,.inl (by simpa using h1)⟩
   ·exact .inr ⟨k,by simp,.inr h1⟩
  ·exact .inr ⟨k',by simp [h1],h2⟩
theorem ER:∀{l:List Oper} {acc:List Nat} {k:Nat},k<acc.length→(gH l acc)[k]?=acc[k]?
 | [],_,_,_=>rfl
 | o::l,acc,k,h=>by
  simp only [gH];rw [ER (by simp;omega),List.getElem?_append_left h]
theorem Mq:∀{l:List Oper} {acc:List Nat} {i:Nat},acc.length=i→oy l i=true→∀(j:Nat) (o:Oper),l[j]?=some o→∀x,((gH l acc).getD (i+j) 0).testBit x=true →
  ∃k∈kI o,k=x∨((gH l acc).getD k 0).testBit x=true
 | [],_,_,_,_,j,o,h=>by simp at h
 | o'::l,acc,i,hl,he,j,o,hj=>by
  intro x hx
  have he2:=he
  simp only [oy,Bool.and_eq_true] at he;cases j with
  | zero =>
   simp at hj;subst hj
   simp only [gH,Nat.add_zero,List.getD_eq_getElem?_getD] at hx ⊢;rw [ER (by simp;omega),←hl,List.getElem?_append_right (Nat.le_refl _)] at hx
   simp at hx
   rcases Mp hx with h1 | ⟨k,h1,h2⟩
   ·simp at h1
   ·refine ⟨k,h1,h2.imp id fun h3=>?_⟩
    have hk:k<acc.length:=by
     have:=List.all_eq_true.1 he.1 k h1
     rw [hl];simpa using this
    rw [ER (by simp;omega),List.getElem?_append_left hk]
    simpa [List.getD_eq_getElem?_getD] using h3
  | succ j =>
   simp only [gH] at hx ⊢;exact Mq (i:=i+1) (by simp [hl]) he.2 j o (by simpa using hj) x (by rw [show i+1+j=i+(j+1) by omega];exact hx)
theorem Mr {e:Ent} {m:Nat}:∀{l:List Ent} {i:Nat},wX e m l i=true→∀(x:Nat) (e':Ent),l[x]?=some e'→mO e' e=true→m.testBit (i+x)=true
 | [],_,_,x,e',h=>by simp at h
 | e0::l,i,h,x,e',hx=>by
  intro hc
  simp only [wX,Bool.and_eq_true,Bool.or_eq_true] at h;cases x with
  | zero =>
   simp at hx;subst hx
   rcases h.1 with h1 | h1
   ·rw [hc] at h1;cases h1
   ·simpa using h1
  | succ x =>
   rw [show i+(x+1)=i+1+x by omega]
   exact Mr h.2 x e' (by simpa using hx) hc
theorem Ms:∀{es prev:List Ent} {ms:List Nat},qE prev es ms=true→∀(j:Nat) (e:Ent),es[j]?=some e→∀(x:Nat) (e':Ent),x<prev.length+j→(prev++es)[x]?=some e'→mO e' e=true→(ms.getD j 0).testBit x=true
 | [],_,_,_,j,e,h=>by simp at h
 | _::_,_,[],h,_,_,_=>by simp [qE] at h
 | e0::es,prev,m::ms,h,j,e,hj=>by
  intro x e' hx he hc
  simp only [qE,Bool.and_eq_true] at h;cases j with
  | zero =>
   simp at hj;subst hj
   have hx:x<prev.length:=by omega
   rw [List.getElem?_append_left hx] at he;have:=Mr h.1 x e' he hc
   simpa using this
  | succ j =>
   have:=Ms h.2 j e (by simpa using hj) x e' (by simp;omega) (by simpa using he) hc
   simpa using this
def sub (σ0:State) (prs:List (Oper×Eff)) (L:Nat→Bool):Nat→State
 | 0=>σ0
 | k+1=>match prs[k]? with
  | some (o,eff)=>match L k with
   | true=>(sub σ0 prs L k).app o.dst eff
   | false=>sub σ0 prs L k
  | none=>sub σ0 prs L k
section
variable {C:Cx} {ops:Array Oper} {σ0:State} {prs:List (Oper×Eff)} {es:List Ent}
def ES (C:Cx) (ops:Array Oper) (σ0:State) (prs:List (Oper×Eff)) (es:List Ent):Prop :=
 es.length=prs.length∧∀(i:Nat) (o:Oper) (eff:Eff) (e:Ent),prs[i]?=some (o,eff)→es[i]?=some e→mN C ops i o (sub σ0 prs (fun _=>true) i) eff e
theorem ET {o:Oper} {eff:Eff} {σ:State} {prs:List (Oper×Eff)}:∀k,sub σ ((o,eff)::prs) (fun _=>true) (k+1)=sub (σ.app o.dst eff) prs (fun _=>true) k
 | 0=>rfl
 | k+1=>by
  have:=ET (o:=o) (eff:=eff) (σ:=σ) (prs:=prs) k
  simp only [sub,List.getElem?_cons_succ] at this ⊢;rw [this]
theorem Xl {l:List Oper} {i:Nat} {σ σ':State} {es:List Ent} (h:Run C ops l i σ es σ') :
  ∃prs:List (Oper×Eff),prs.map (·.1)=l∧es.length=prs.length∧σ'=sub σ prs (fun _=>true) prs.length ∧
   ∀(j:Nat) (o:Oper) (eff:Eff) (e:Ent),prs[j]?=some (o,eff)→es[j]?=some e→mN C ops (i+j) o (sub σ prs (fun _=>true) j) eff e:=by
 induction h with
 | nil=>exact ⟨[],rfl,rfl,rfl,fun j o eff e h=>by simp at h⟩
 | @cons o rest i σ σ' eff e es h t ih =>
  obtain ⟨prs,h1,h2,h3,h4⟩:=ih;refine ⟨(o,eff)::prs,by simp [h1],by simp [h2],?_,fun j o' eff' e' hj he=>?_⟩
  ·rw [h3,List.length_cons,ET]
  ·cases j with
   | zero=>simp at hj he;obtain ⟨rfl,rfl⟩:=hj;subst he;exact h
   | succ j =>
    rw [ET];have:=h4 j o' eff' e' (by simpa using hj) (by simpa using he)
    rwa [show i+(j+1)=i+1+j by omega]
variable (hst:ES C ops σ0 prs es)
include hst
theorem EU {i:Nat} {o:Oper} {eff:Eff} (h:prs[i]?=some (o,eff)):∃e,es[i]?=some e∧mN C ops i o (sub σ0 prs (fun _=>true) i) eff e:=by
 have hlt:i<es.length:=by rw [hst.1];exact (List.getElem?_eq_some_iff.1 h).1
 exact ⟨es[i],List.getElem?_eq_getElem hlt,hst.2 i o eff _ h (List.getElem?_eq_getElem hlt)⟩
theorem EW {L L':Nat→Bool} {κ:Key}:∀(k:Nat),(∀(j:Nat) (e:Ent),j<k→es[j]?=some e→κ∈e.wr→L j=L' j)→(sub σ0 prs L k).get κ=(sub σ0 prs L' k).get κ
 | 0,_=>rfl
 | k+1,h=>by
  have ih:=EW k fun j e hj=>h j e (by omega)
  simp only [sub];cases hp:prs[k]? with
  | none=>exact ih
  | some p =>
   obtain ⟨o,eff⟩:=p;obtain ⟨e,he,hs⟩:=EU hst hp;by_cases hκ:κ∈e.wr
   ·have:=h k e (by omega) he hκ
    simp only [this];cases L' k with
    | true=>exact hs.2.1 κ hκ _ _
    | false=>exact ih
   ·cases hL:L k <;> cases hL':L' k <;> simp only [hs.1 κ hκ] <;> exact ih
omit hst in
theorem Mt {L:Nat→Bool} {i:Nat} (h:∀j,i≤j→L j=false):∀k,i≤k→sub σ0 prs L k=sub σ0 prs L i
 | 0, hk => by have:i=0:=by omega
               subst this;rfl
 | k+1,hk=>by
  by_cases hik:i=k+1
  ·subst hik;rfl
  ·have ih:=Mt h k (by omega)
   simp only [sub];cases prs[k]? with
   | none=>exact ih
   | some p=>simp only [h k (by omega)];exact ih
omit hst in
theorem w5 {L L':Nat→Bool}:∀k,(∀j,j<k→L j=L' j)→sub σ0 prs L k=sub σ0 prs L' k
 | 0,_=>rfl
 | k+1,h=>by
  have ih:=w5 k fun j hj=>h j (by omega)
  simp only [sub,ih,h k (by omega)]
theorem Mu {L:Nat→Bool} {κ:Key} {i:Nat} (h:∀(j:Nat) (e:Ent),i≤j→es[j]?=some e→κ∈e.wr→L j=false):∀k,i≤k→(sub σ0 prs L k).get κ=(sub σ0 prs L i).get κ
 | 0, hk => by have:i=0:=by omega
               subst this;rfl
 | k+1,hk=>by
  by_cases hik:i=k+1
  ·subst hik;rfl
  ·have ih:=Mu h k (by omega)
   simp only [sub];cases hp:prs[k]? with
   | none=>exact ih
   | some p =>
    obtain ⟨o,eff⟩:=p;obtain ⟨e,he,hs⟩:=EU hst hp;by_cases hκ:κ∈e.wr
    ·simp only [h k e (by omega) he hκ];exact ih
    ·cases hL:L k <;> simp only [hs.1 κ hκ] <;> exact ih
end
theorem EX:∀(n:Nat) (S:List Nat),S.Nodup→(∀k∈S,k<n)→S.length≤n
 | 0,S,_,h=>by
  cases S with
  | nil=>simp
  | cons x S=>have:=h x (by simp);omega
 | n+1,S,hn,h=>by
  by_cases hx:n∈S
  ·have:=EX n (S.erase n) (hn.erase n) fun k hk=>by
    have h1:=(hn.mem_erase_iff).1 hk
    have:=h k h1.2
    have:=h1.1
    omega
   rw [List.length_erase_of_mem hx] at this;omega
  ·have:=EX n S hn fun k hk=>by
    have:=h k hk
    have:k≠n:=fun hc=>hx (hc ▸ hk)
    omega
   omega
section
variable {C:Cx} {ops:Array Oper} {σ0:State} {prs:List (Oper×Eff)} {es:List Ent}
theorem Xm (hst:ES C ops σ0 prs es) (hl:prs.map (·.1)=ops.toList) (hok:EQ ops.toList es=true) {Q:Exit→Act→World→Prop}
  (hq:∀a w,aN C (sub σ0 prs (fun _=>true) prs.length) a w→Q .normal a w) :
  ∀(fuel:Nat) (listed:Array Bool) (a:Act) (w:World),listed.size=ops.size →
   (∀S:List Nat,S.Nodup→(∀k∈S,k<ops.size∧listed.getD k true=false)→S.length≤fuel) →
   (∀(j:Nat) (o:Oper),ops[j]?=some o→listed.getD j false=true→∀k∈kI o,listed.getD k false=true) →
   aN C (sub σ0 prs (fun k=>listed.getD k false) prs.length) a w→wpAny C.P .any ops Q fuel listed a w:=by
 have hlen:prs.length=ops.size:=by have:=congrArg List.length hl;simpa using this
 simp only [EQ,Bool.and_eq_true] at hok;obtain ⟨helt,hchk⟩:=hok;have hop:∀(i:Nat) (o:Oper),ops[i]?=some o→∃eff,prs[i]?=some (o,eff):=fun i o hi=>by
  have h1:(prs.map (·.1))[i]?=some o:=by rw [hl];simpa using hi
  rw [List.getElem?_map] at h1;cases hp:prs[i]? with
  | none=>simp [hp] at h1
  | some p=>simp [hp] at h1;exact ⟨p.2,by rw [←h1]⟩
 have hpo:∀(i:Nat) (o:Oper) (eff:Eff),prs[i]?=some (o,eff)→ops[i]?=some o:=fun i o eff hi=>by
  have h1:(prs.map (·.1))[i]?=some o:=by simp [hi]
  rw [hl] at h1;simpa using h1
 have hdep:∀(j:Nat) (o:Oper),ops[j]?=some o→∀x,((gH ops.toList []).getD j 0).testBit x=true→∃k∈kI o,k=x∨((gH ops.toList []).getD k 0).testBit x=true:=fun j o hj x hx=>by
  have:=Mq (acc:=[]) (i:=0) rfl helt j o (by simpa using hj) x (by rw [Nat.zero_add];exact hx)
  exact this
 have hcon:∀(i j:Nat) (e e':Ent),i<j→es[i]?=some e→es[j]?=some e'→mO e e'=true→((gH ops.toList []).getD j 0).testBit i=true:=fun i j e e' hij hi hj hc =>
  Ms hchk j e' hj i e (by simpa using hij) (by simpa using hi) hc
 have hgd:∀(listed:Array Bool),listed.size=ops.size→∀k,k<ops.size→(listed.getD k false=true↔listed.getD k true=true):=fun listed hs k hk=>by
  have:k<listed.size:=by omega
  simp [Array.getD,this]
 have hclosed:∀(listed:Array Bool),(∀(j:Nat) (o:Oper),ops[j]?=some o→listed.getD j false=true→∀k∈kI o,listed.getD k false=true) →
   ∀(n j:Nat) (o:Oper),j<n→ops[j]?=some o→listed.getD j false=true→∀x,((gH ops.toList []).getD j 0).testBit x=true→listed.getD x false=true:=by
  intro listed hcl n
  induction n with
  | zero=>intro j o hj;omega
  | succ n ih =>
   intro j o hj ho hlj x hx
   obtain ⟨k,hk,h1⟩:=hdep j o ho x hx;have hkl:=hcl j o ho hlj k hk
   rcases h1 with rfl | h1
   ·exact hkl
   ·have hkj:k<j:=by have:=wZ helt j o (by simpa using ho) k hk;omega
    have hko:∃ok,ops[k]?=some ok:=by
     have:k<ops.size:=by have:=(Array.getElem?_eq_some_iff.1 ho).1;omega
     exact ⟨ops[k],Array.getElem?_eq_getElem this⟩
    obtain ⟨ok,hko⟩:=hko;exact ih k ok (by omega) hko hkl x h1
 intro fuel
 induction fuel with
 | zero =>
  intro listed a w hs hcnt hcl hse
  have hall:∀k,k<ops.size→listed.getD k false=true:=fun k hk=>by
   refine Classical.byContradiction fun hc=>?_
   have:=hcnt [k] (by simp) (fun k' hk'=>by
    simp at hk';subst hk'
    refine ⟨hk,?_⟩
    have:=hgd listed hs k' hk
    cases hx:listed.getD k' true with
    | false=>rfl
    | true=>exact absurd (this.2 hx) hc)
   simp at this
  refine ⟨?_,hq a w ?_⟩
  ·unfold Region.ready
   rw [List.filter_eq_nil_iff];intro i hi
   have hi':i<ops.size:=by simpa using hi
   simp [(hgd listed hs i hi').1 (hall i hi')]
  ·rw [w5 prs.length (L':=fun k=>listed.getD k false) fun j hj=>(hall j (by omega)).symm]
   exact hse
 | succ fuel ih =>
  intro listed a w hs hcnt hcl hse
  refine ⟨fun hready=>hq a w ?_,fun i hi=>?_⟩
  ·-- nothing is ready: all are listed
   have hall:∀n k,k<n→k<ops.size→listed.getD k false=true:=by
    intro n
    induction n with
    | zero=>intro k hk;omega
    | succ n ihn =>
     intro k hk hko
     refine Classical.byContradiction fun hc=>?_
     have hmem:k∈Region.ready .any ops listed:=by
      unfold Region.ready;rw [List.mem_filter];refine ⟨by simpa using hko,?_⟩
      have h1:listed.getD k true=false:=by
       cases hx:listed.getD k true with
       | false=>rfl
       | true=>exact absurd ((hgd listed hs k hko).2 hx) hc
      rw [h1];have h2:ops[k]?=some ops[k]:=Array.getElem?_eq_getElem hko
      rw [h2];simp only [Bool.not_false,Option.map_some,Option.getD_some,Bool.true_and,Array.all_eq_true_iff_forall_mem];intro e he
      cases hb:Region.binds .any e with
      | false=>rfl
      | true =>
       have hon:e.on∈kI ops[k]:=List.mem_map.2 ⟨e,List.mem_filter.2 ⟨by simpa using he,hb⟩,rfl⟩
       have hlt:e.on<k:=by have:=wZ helt k ops[k] (by simp) e.on hon;omega
       simpa using ihn e.on (by omega) (by omega)
     rw [hready] at hmem;simp at hmem
   rw [w5 prs.length (L':=fun k=>listed.getD k false) fun j hj=>(hall (j+1) j (by omega) (by omega)).symm]
   exact hse
  ·-- operation i is ready
   unfold Region.ready at hi;rw [List.mem_filter] at hi;obtain ⟨hir,hi2⟩:=hi;have hio:i<ops.size:=by simpa using hir
   have ho:ops[i]?=some ops[i]:=Array.getElem?_eq_getElem hio
   simp only [Bool.and_eq_true,Bool.not_eq_true',ho,Option.map_some,Option.getD_some] at hi2;obtain ⟨hil,hiall⟩:=hi2;have hil':listed.getD i false=false:=by
    cases hx:listed.getD i false with
    | false=>rfl
    | true=>rw [(hgd listed hs i hio).1 hx] at hil;cases hil
   have hedge:∀k∈kI ops[i],listed.getD k false=true:=fun k hk=>by
    obtain ⟨e,he,rfl⟩:=List.mem_map.1 hk;obtain ⟨he1,he2⟩:=List.mem_filter.1 he;have:=Array.all_eq_true_iff_forall_mem.1 hiall e (by simpa using he1)
    rw [he2] at this
    simpa using this
   have hanc:∀x,((gH ops.toList []).getD i 0).testBit x=true→listed.getD x false=true:=fun x hx=>by
    obtain ⟨k,hk,h1⟩:=hdep i _ ho x hx;rcases h1 with rfl | h1
    ·exact hedge k hk
    ·have hki:k<i:=by have:=wZ helt i ops[i] (by simp) k hk;omega
     have hko:ops[k]?=some (ops[k]'(by omega)):=Array.getElem?_eq_getElem (by omega)
     exact hclosed listed hcl (k+1) k _ (by omega) hko (hedge k hk) x h1
   have hafter:∀(j:Nat),i<j→((gH ops.toList []).getD j 0).testBit i=true→j<ops.size→listed.getD j false=false:=fun j hij hb hj=>by
    cases hx:listed.getD j false with
    | false=>rfl
    | true =>
     have hjo:ops[j]?=some ops[j]:=Array.getElem?_eq_getElem hj
     have:=hclosed listed hcl (j+1) j _ (by omega) hjo hx i hb
     rw [hil'] at this;cases this
   obtain ⟨eff,hpi⟩:=hop i _ ho;obtain ⟨e,hei,hstep⟩:=EU hst hpi;have hesz:∀(j:Nat) (e':Ent),es[j]?=some e'→j<ops.size:=fun j e' hj=>by
    have:=(List.getElem?_eq_some_iff.1 hj).1
    rw [hst.1] at this;omega
   have hread:∀κ∈e.rd,(sub σ0 prs (fun k=>listed.getD k false) prs.length).get κ=(sub σ0 prs (fun _=>true) i).get κ:=fun κ hκ=>by
    have h1:(sub σ0 prs (fun k=>listed.getD k false) prs.length).get κ=(sub σ0 prs (fun k=>decide (k<i)) prs.length).get κ:=EW hst _ fun j e' hj he' hκ'=>by
     by_cases hji:j<i
     ·have:=hanc j (hcon j i e' e hji he' hei (by simp only [mO,wY hκ' hκ];rfl))
      rw [this];simp [hji]
     ·by_cases hij:j=i
      ·subst hij;rw [hil'];simp
      ·have hb:=hcon i j e e' (by omega) hei he' (by simp only [mO,wY hκ hκ'];simp)
       rw [hafter j (by omega) hb (hesz j e' he')]
       simp;omega
    rw [h1,Mt (i:=i) (fun j hj=>by simp;omega) prs.length (by have:=(List.getElem?_eq_some_iff.1 hpi).1;omega),w5 i (L':=fun _=>true) fun j hj=>by simp [hj]]
   have hwp:=hstep.2.2 _ hread a w hse Q
   refine wpOp_mono (fun a' w' hse'=>?_) hwp
   have hset:∀k,(listed.setIfInBounds i true).getD k false=(listed.getD k false||decide (k=i)):=fun k=>by
    by_cases hk:k=i
    ·subst hk
     have:k<listed.size:=by omega
     simp [Array.getD,this]
    ·have hne:i≠k:=fun h=>hk h.symm
     simp [Array.getD_eq_getD_getElem?,Array.getElem?_setIfInBounds_ne hne,hk]
   refine ih (listed.setIfInBounds i true) a' w' (by simpa using hs) (fun S hS hSk=>?_) (fun j o hj hlj k hk=>?_) (hse'.ext fun κ=>?_)
   ·have hiS:i ∉ S:=fun hc=>by
     have:=(hSk i hc).2
     have hlt:i<listed.size:=by omega
     simp [Array.getD,hlt] at this
    have:=hcnt (i::S) (List.nodup_cons.2 ⟨hiS,hS⟩) (fun k hk=>by
     rcases List.mem_cons.1 hk with rfl | hk
     ·exact ⟨hio,hil⟩
     ·refine ⟨(hSk k hk).1,?_⟩
      have h1:=(hSk k hk).2
      have hne:i≠k:=fun hc=>hiS (hc ▸ hk)
      simpa [Array.getD_eq_getD_getElem?,Array.getElem?_setIfInBounds_ne hne] using h1)
    simp at this;omega
   ·rw [hset] at hlj ⊢
    simp only [Bool.or_eq_true,decide_eq_true_eq] at hlj ⊢;rcases hlj with h1 | h1
    ·exact .inl (hcl j o hj h1 k hk)
    ·subst h1
     have:o=ops[j]:=Option.some.inj (hj.symm.trans ho)
     subst this;exact .inl (hedge k hk)
   ·-- the states read alike
    have hfun:(fun k=>(listed.setIfInBounds i true).getD k false)=fun k=>(listed.getD k false||decide (k=i)):=funext hset
    rw [hfun];have hile:i<prs.length:=(List.getElem?_eq_some_iff.1 hpi).1
    by_cases hκ:κ∈e.wr
    ·rw [Mu hst (i:=i+1) (fun j e' hj he' hκ'=>by
      have hb:=hcon i j e e' (by omega) hei he' (by simp only [mO,wY hκ hκ'];simp)
      rw [hafter j (by omega) hb (hesz j e' he')]
      simp;omega) prs.length (by omega)]
     simp only [sub,hpi];simp only [hil',decide_true,Bool.or_true];exact hstep.2.1 κ hκ _ _
    ·rw [hstep.1 κ hκ]
     refine EW hst _ fun j e' hj he' hκ'=>?_
     have hne:j≠i:=fun hc=>by
      subst hc;have:e'=e:=Option.some.inj (he'.symm.trans hei)
      subst this;exact hκ hκ'
     simp [hne]
end
end Go.Sx
end
section
namespace Go.Sx
open Go.RowKit
abbrev dc:=List (Nat×Option Nat)
def fX:List Prop→Prop
 | []=>True
 | p::l=>match l with
  | []=>p
  | q::r=>p∧fX (q::r)
theorem mP {p:Prop} {l:List Prop}:fX (p::l)↔p∧fX l:=by
 cases l <;> simp [fX]
theorem w6 {l l':List Prop}:fX (l++l')↔fX l∧fX l':=by
 induction l with
 | nil=>simp [fX]
 | cons p l ih=>rw [List.cons_append,mP,mP,ih,and_assoc]
def fI (ρ:dc) (new:Nat) (old:Option Nat):Option dc :=
 match lk ρ new with
 | none=>some ((new,old)::ρ)
 | some x=>match x,old with
  | some a,some b=>match Nat.beq a b with
   | true=>some ρ
   | false=>none
  | none,none=>some ρ
  | _,_=>none
def fY:FC→FC→Option Prop
 | .int k n,.int k' n'=>if k=k' then some (n=n') else none
 | .bool b,.bool b'=>some (b=b')
 | .str l,.str l'=>some (l=l')
 | .ints k l,.ints k' l'=>if k=k' then some (l=l') else none
 | .bools l,.bools l'=>some (l=l')
 | .rows k l,.rows k' l'=>if k=k' then some (l=l') else none
 | .r3 k l,.r3 k' l'=>if k=k' then some (l=l') else none
 | .r4 k l,.r4 k' l'=>if k=k' then some (l=l') else none
 | _,_=>none
def w7 (σ:State) (o:Nat):Option Nat :=
 match σ.H o with
 | some (some ob)=>ob.len?
 | _=>none
def lF (σ:State) (o v:Nat):Bool :=
 match σ.H o with
 | some (some ob)=>Nat.beq ob.shp.ver v
 | _=>false
def w8 (σ:State) (ρ:dc) (c n:SC):Option (dc×List Prop) :=
 match n with
 | .any=>some (ρ,[])
 | .und=>match c with
  | .und=>some (ρ,[])
  | _=>none
 | .int k' x'=>match c with
  | .int k x=>if k=k' then some (ρ,[x=x']) else none
  | _=>none
 | .bool x'=>match c with
  | .bool x=>some (ρ,[x=x'])
  | _=>none
 | .str x'=>match c with
  | .str x=>some (ρ,[x=x'])
  | _=>none
 | .nil=>match c with
  | .nil=>some (ρ,[])
  | _=>none
 | .own o'=>match c with
  | .own o=>match fI ρ o' (some o) with
   | some ρ'=>some (ρ',[])
   | none=>none
  | .nil=>match fI ρ o' none with
   | some ρ'=>some (ρ',[])
   | none=>none
  | _=>none
 | .pre o' x'=>match c with
  | .pre o x=>match fI ρ o' (some o) with
   | some ρ'=>some (ρ',[x=x'])
   | none=>none
  | .own o=>match w7 σ o with
   | some L=>match fI ρ o' (some o) with
    | some ρ'=>some (ρ',[L=x'])
    | none=>none
   | none=>none
  | .nil=>match fI ρ o' none with
   | some ρ'=>some (ρ',[x'=0])
   | none=>none
  | _=>none
 | .sub o' y' x'=>match c with
  | .sub o y x=>match fI ρ o' (some o) with
   | some ρ'=>some (ρ',[y=y',x=x'])
   | none=>none
  | .pre o x=>match fI ρ o' (some o) with
   | some ρ'=>some (ρ',[0=y',x=x'])
   | none=>none
  | .own o=>match w7 σ o with
   | some L=>match fI ρ o' (some o) with
    | some ρ'=>some (ρ',[0=y',L=x'])
    | none=>none
   | none=>none
  | _=>none
 | .ptr o' x'=>match c with
  | .ptr o x=>match fI ρ o' (some o) with
   | some ρ'=>match Nat.beq x x' with
    | true=>some (ρ',[])
    | false=>none
   | none=>none
  | _=>none
 | .row o' v' x'=>match c with
  | .row o v x=>match Nat.beq v' 0&&lF σ o v with
   | true=>match fI ρ o' (some o) with
    | some ρ'=>some (ρ',[x=x'])
    | none=>none
   | false=>none
  | _=>none
 | .ro d'=>match c with
  | .ro d=>match fY d d' with
   | some p=>some (ρ,[p])
   | none=>none
  | .own o=>match σ.H o with
   | some (some (.frz d))=>match fY d d' with
    | some p=>some (ρ,[p])
    | none=>none
   | _=>none
  | .pre o n=>match σ.H o with
   | some (some (.frz d))=>match co 0 n d with
    | some d0=>match fY d0 d' with
     | some p=>some (ρ,[p])
     | none=>none
    | none=>none
   | _=>none
  | .sub o off n=>match σ.H o with
   | some (some (.frz d))=>match co off n d with
    | some d0=>match fY d0 d' with
     | some p=>some (ρ,[p])
     | none=>none
    | none=>none
   | _=>none
  | .nil=>match dv d' with
   | true=>none
   | false=>some (ρ,[d'.len=0])
  | _=>none
 | .rob cs' x'=>match c with
  | .rob cs x=>some (ρ,[cs=cs',x=x'])
  | _=>none
 | .orig o' j' d'=>match c with
  | .orig o j d=>match Nat.beq j j'&&lF σ o 0 with
   | true=>match fI ρ o' (some o) with
    | some ρ'=>match fY d d' with
     | some p=>some (ρ',[p])
     | none=>none
    | none=>none
   | false=>none
  | _=>none
 | _=>none
def kJ (σ:State):dc→List SC→List SC→Option (dc×List Prop)
 | ρ,[],[]=>some (ρ,[])
 | ρ,c::cs,n::ns=>match w8 σ ρ c n with
  | some (ρ',ps)=>match kJ σ ρ' cs ns with
   | some (ρ'',qs)=>some (ρ'',ps++qs)
   | none=>none
  | none=>none
 | _,_,_=>none
def EY (σ:State) (ρ:dc) (v n:SV):Option (dc×List Prop) :=
 match v,n with
 | .c c,.c d=>w8 σ ρ c d
 | .agg cs,.agg ns=>kJ σ ρ cs ns
 | .fn f cs,.fn f' ns=>match Nat.beq f f' with
  | true=>kJ σ ρ cs ns
  | false=>none
 | .fv F,.fv F'=>some (ρ,[F=F'])
 | .fvs o F,.fvs o' F'=>match fI ρ o' (some o) with
  | some ρ'=>some (ρ',[F=F'])
  | none=>none
 | _,_=>none
def qF (σ:State):dc→List (Nat×SV)→Option (dc×List Prop)
 | ρ,[]=>some (ρ,[])
 | ρ,(t,n)::l=>match σ.F t with
  | some v=>match EY σ ρ v n with
   | some (ρ',ps)=>match qF σ ρ' l with
    | some (ρ'',qs)=>some (ρ'',ps++qs)
    | none=>none
   | none=>none
  | none=>none
def EZ (σ:State) (pinned:Bool) (ρ:dc) (ob n:Ob):Option (dc×List Prop) :=
 match ob,n with
 | .box cs,.box ns=>kJ σ ρ cs ns
 | .ints e k l,.ints e' k' l'=>if e=e'∧k=k' then some (ρ,[l=l']) else none
 | .bools e l,.bools e' l'=>if e=e' then some (ρ,[l=l']) else none
 | .strs e l,.strs e' l'=>if e=e' then some (ρ,[l=l']) else none
 | .rows v e ei k l,.rows v' e' ei' k' l'=>if e=e'∧ei=ei'∧k=k'∧(pinned=true→v≤v') then some (ρ,[l=l']) else none
 | .lst v e d,.lst v' e' d'=>if e=e'∧(pinned=true→v≤v') then (match fY d d' with | some p=>some (ρ,[p]) | none=>none) else none
 | .mp l,.mp l'=>some (ρ,[l=l'])
 | .tr v es d,.tr v' es' d'=>match g9 es es' with
  | true=>if pinned=true→v≤v' then (match fY d d' with | some p=>some (ρ,[p]) | none=>none) else none
  | false=>none
 | .qu e k l,.qu e' k' l'=>if e=e'∧k=k' then some (ρ,[l=l']) else none
 | .ints e k l,.qu e' k' l'=>if e=e'∧k=k' then some (ρ,[l=l']) else none
 | _,_=>none
def w9 (n:Ob):Option Prop :=
 match n with
 | .ints _ _ l=>some (l=[])
 | .bools _ l=>some (l=[])
 | .rows _ _ _ _ l=>some (l=[])
 | .lst _ _ d=>some (d.len=0)
 | _=>none
def mQ (σ:State) (pins:List Nat):dc→List (Nat×Option Ob)→Option (dc×List Prop)
 | ρ,[]=>some (ρ,[])
 | _,(_,none)::_=>none
 | ρ,(o',some n)::l=>match lk ρ o' with
  | some (some o)=>match σ.H o with
   | some (some ob)=>match EZ σ (!(fo o' pins)) ρ ob n with
    | some (ρ',ps)=>match mQ σ pins ρ' l with
     | some (ρ'',qs)=>some (ρ'',ps++qs)
     | none=>none
    | none=>none
   | _=>none
  | some none=>match w9 n with
   | some p=>match mQ σ pins ρ l with
    | some (ρ'',qs)=>some (ρ'',p::qs)
    | none=>none
   | none=>none
  | none=>none
def kK:dc→List Nat
 | []=>[]
 | (_,some o)::l=>o::kK l
 | (_,none)::l=>kK l
def xa (hp:List (Nat×Option Ob)):dc→Bool
 | []=>true
 | (k,_)::l=>(match lk hp k with
   | some (some _)=>true
   | _=>false)&&xa hp l
def xb (ρ:dc):List Nat→Bool
 | []=>true
 | p::l=>(match lk ρ p with
   | some (some q)=>Nat.beq q p
   | _=>false)&&xb ρ l
def E3 (σ n:State) (pins:List Nat):Option (List Prop) :=
 match qF σ (pins.map fun p=>(p,some p)) n.fr with
 | none=>none
 | some (ρ,ps)=>match mQ σ pins ρ n.hp with
  | none=>none
  | some (ρ',qs)=>match iK (kK ρ')&&xa n.hp ρ'&&xb ρ' pins&&iK (ρ'.map (·.1)) with
   | true=>some (ps++qs)
   | false=>none
def lG (σ:State) (o:Nat):List (Nat×Option Ob) :=
 match σ.H o with
 | some (some ob)=>match ob.isFz with
  | true=>[]
  | false=>match gD ob with
   | some d=>[(o,some (.frz d))]
   | none=>[]
 | _=>[]
def xc (σ:State) (o:Nat):List (Nat×Option Ob) :=
 match σ.H o with
 | some (some (.rows v e _ k l))=>[(o,some (.lst (v+1) e (.rows k l)))]
 | _=>[]
def xd (σ n:State) (c d:SC):List (Nat×Option Ob) :=
 match c,d with
 | .own o,.ro _=>lG σ o
 | .pre o _,.ro _=>lG σ o
 | .sub o _ _,.ro _=>lG σ o
 | .own o,.own o'=>match n.H o' with
  | some (some (.lst _ _ _))=>xc σ o
  | _=>[]
 | _,_=>[]
def xe (σ n:State):List SC→List SC→List (Nat×Option Ob)
 | c::cs,d::ds=>xd σ n c d++xe σ n cs ds
 | _,_=>[]
def E4 (σ n:State) (v d:SV):List (Nat×Option Ob) :=
 match v,d with
 | .c c,.c d=>match c,d with
  | .ptr o _,.ptr o' _=>match σ.H o,n.H o' with
   | some (some (.box cs)),some (some (.box ns))=>xe σ n cs ns
   | _,_=>[]
  | c,d=>xd σ n c d
 | .agg cs,.agg ns=>xe σ n cs ns
 | _,_=>[]
def qG (σ n:State):List (Nat×SV)→List (Nat×Option Ob)
 | []=>[]
 | (t,d)::l=>match σ.F t with
  | some v=>E4 σ n v d++qG σ n l
  | none=>qG σ n l
def jP:List (Nat×Option Ob)→List (Nat×Option Ob)
 | []=>[]
 | (o,x)::l=>match fo o ((jP l).map (·.1)) with
  | true=>(o,x)::jP l
  | false=>jP l
def Mv (σ n:State):State:=⟨σ.fr,jP (qG σ n n.fr)++σ.hp⟩
def eF (ρ ρ':dc):Prop:=∀o x,lk ρ o=some x→lk ρ' o=some x
theorem eF.refl (ρ:dc):eF ρ ρ:=fun _ _ h=>h
theorem eF.trans {a b c:dc} (h:eF a b) (k:eF b c):eF a c:=fun o x hx=>k o x (h o x hx)
theorem eY {ρ ρ':dc} {n:Nat} {o:Option Nat} (h:fI ρ n o=some ρ'):eF ρ ρ'∧lk ρ' n=some o:=by
 unfold fI at h;split at h
 ·rename_i hn
  cases h;refine ⟨fun x y hx=>?_,by simp [bC]⟩
  rw [bC];split
  ·rename_i hnx;subst hnx;rw [hn] at hx;cases hx
  ·exact hx
 ·rename_i x hx
  split at h
  ·split at h
   ·rename_i hab
    cases h;rw [Nat.eq_of_beq_eq_true hab] at hx;exact ⟨.refl _,hx⟩
   ·cases h
  ·cases h;exact ⟨.refl _,hx⟩
  ·cases h
theorem gI {d d':FC} {p:Prop} (h:fY d d'=some p) (hp:p):d=d':=by
 unfold fY at h;split at h
 ·split at h
  ·rename_i hk;cases h;rw [hk,hp]
  ·cases h
 ·cases h;rw [hp]
 ·cases h;rw [hp]
 ·split at h
  ·rename_i hk;cases h;rw [hk,hp]
  ·cases h
 ·cases h;rw [hp]
 ·split at h
  ·rename_i hk;cases h;rw [hk,hp]
  ·cases h
 ·split at h
  ·rename_i hk;cases h;rw [hk,hp]
  ·cases h
 ·split at h
  ·rename_i hk;cases h;rw [hk,hp]
  ·cases h
 ·cases h
theorem Mw {d:FC} (hs:dv d=false) (h:d.len=0) (w:World):bw w (.slice none 0 0) d:=by
 have key:∀(R:Nat→Value→Prop),bN w (.slice none 0 0) 0 R:=fun R=>⟨_,_,rfl,Nat.le_refl _,fun h0=>by omega⟩
 cases d with
 | int k n=>cases hs
 | bool b=>cases hs
 | str l=>cases hs
 | _=>rename_i l;cases l <;> first | exact key _ | (simp [FC.len] at h)
section
variable {C:Cx} {σ n:State} {mu mu':Nat→Img} {a:Act} {w:World}
def kL (σ n:State) (mu mu':Nat→Img) (ρ:dc):Prop :=
 ∀o' x,lk ρ o'=some x→∃nb,n.H o'=some (some nb)∧nb.isFz=false∧match x with
  | some o=>∃ob,σ.H o=some (some ob)∧ob.isFz=false∧nb.shp.len=ob.shp.len∧mu' o'=mu o∧∀L,ob.len?=some L→cH (mu o).hd 0 L (mu o).hd∧ob.shp.len=L
  | none=>mu' o'=⟨.slice none 0 0,[]⟩
theorem Mx {ρ ρ':dc} {c d:SC} {ps:List Prop} (h:w8 σ ρ c d=some (ρ',ps)) (hp:fX ps):eF ρ ρ'∧∀ρf,eF ρ' ρf→kL σ n mu mu' ρf→∀v,ap (σ.env C.wF mu) c v→ap (n.env C.wF mu') d v:=by
 have ref:∀{o' o:Nat} {ρ'},fI ρ o' (some o)=some ρ'→∀{p q:Shp→Prop} {p2 q2:FC→Prop} {v},(∀s s',s'.len=s.len→mu' o'=mu o→p s→q s')→∀ρf,eF ρ' ρf→kL σ n mu mu' ρf→bV (σ.env C.wF mu) o v p p2→bV (n.env C.wF mu') o' v q q2:=fun {o' o ρ'} hb {p q p2 q2 v} hpq ρf hex hro hv=>by
  obtain ⟨nb,h1,h1f,ob,h2,h2f,h3,h4,_⟩:=hro o' _ (hex _ _ (eY hb).2);have:=aV h2 hv
  exact ft h1 hv.1 (hpq _ _ h3 h4 this)
 have own:∀{o' o L:Nat} {ρ'},w7 σ o=some L→fI ρ o' (some o)=some ρ'→∀{v} {ρf} {q2:FC→Prop},eF ρ' ρf→kL σ n mu mu' ρf→ap (σ.env C.wF mu) (.own o) v→bV (n.env C.wF mu') o' v (fun s=>L≤s.len∧cH (mu' o').hd 0 L v) q2:=fun {o' o L ρ'} hL hb {v ρf q2} hex hro hv=>by
  obtain ⟨nb,h1,h1f,ob,h2,h2f,h3,h4,h5⟩:=hro o' _ (hex _ _ (eY hb).2);have:=aV h2 hv
  unfold w7 at hL;rw [h2] at hL;obtain ⟨h6,h7⟩:=h5 L hL;refine ft h1 hv.1 ⟨by rw [h3,h7];exact Nat.le_refl _,?_⟩
  rw [h4,show v=(mu o).hd from this]
  exact h6
 unfold w8 at h;split at h
 ·cases h;exact ⟨.refl _,fun _ _ _ _ _=>trivial⟩
 ·split at h
  ·cases h;exact ⟨.refl _,fun _ _ _ v hv=>hv⟩
  ·cases h
 ·split at h
  ·split at h
   ·rename_i hk;cases h;exact ⟨.refl _,fun _ _ _ v hv=>by simp only [ap] at hv ⊢;rw [hv,hk,show _=_ from hp]⟩
   ·cases h
  ·cases h
 ·split at h
  ·cases h;exact ⟨.refl _,fun _ _ _ v hv=>by simp only [ap] at hv ⊢;rw [hv,show _=_ from hp]⟩
  ·cases h
 ·split at h
  ·cases h;exact ⟨.refl _,fun _ _ _ v hv=>by simp only [ap] at hv ⊢;rw [hv,show _=_ from hp]⟩
  ·cases h
 ·split at h
  ·cases h;exact ⟨.refl _,fun _ _ _ v hv=>hv⟩
  ·cases h
 ·split at h
  ·split at h
   ·rename_i hb
    cases h;exact ⟨(eY hb).1,fun ρf hex hro v hv=>ref hb (p:=fun _=>v=(mu _).hd) (fun s s' _ h2 h3=>by show v=(mu' _).hd;rw [h2];exact h3) ρf hex hro hv⟩
   ·cases h
  ·split at h
   ·rename_i hb
    cases h;refine ⟨(eY hb).1,fun ρf hex hro v hv=>?_⟩
    obtain ⟨nb,h1,h1f,h2⟩:=hro _ _ (hex _ _ (eY hb).2);simp only [ap] at hv;subst hv;refine ft h1 rfl ?_
    show _=(mu' _).hd
    rw [show mu' _=_ from h2]
   ·cases h
  ·cases h
 ·split at h
  ·split at h
   ·rename_i hb
    cases h;exact ⟨(eY hb).1,fun ρf hex hro v hv=>ref hb (p:=fun s=>_≤s.len∧cH (mu _).hd 0 _ v) (fun s s' h1 h2 h3=>by
     rw [←show _=_ from hp]
     show _≤s'.len∧cH (mu' _).hd 0 _ v
     rw [h2,h1];exact h3) ρf hex hro hv⟩
   ·cases h
  ·split at h
   ·rename_i hL
    split at h
    ·rename_i hb
     cases h;exact ⟨(eY hb).1,fun ρf hex hro v hv=>by
      have hp:_=_:=hp
      subst hp;exact own hL hb hex hro hv⟩
    ·cases h
   ·cases h
  ·split at h
   ·rename_i hb
    cases h;refine ⟨(eY hb).1,fun ρf hex hro v hv=>?_⟩
    obtain ⟨nb,h1,h1f,h2⟩:=hro _ _ (hex _ _ (eY hb).2);simp only [ap] at hv;subst hv;refine ft h1 rfl ⟨by rw [show _=_ from hp];exact Nat.zero_le _,.inl ⟨?_,rfl,rfl,hp⟩⟩
    show (mu' _).hd=_
    rw [show mu' _=_ from h2]
   ·cases h
  ·cases h
 ·split at h
  ·split at h
   ·rename_i hb
    cases h;obtain ⟨hp1,hp2⟩:=mP.1 hp;exact ⟨(eY hb).1,fun ρf hex hro v hv=>ref hb (p:=fun s=>_+_≤s.len∧cH (mu _).hd _ _ v) (fun s s' h1 h2 h3=>by
     rw [←hp1,←show _=_ from hp2]
     show _+_≤s'.len∧cH (mu' _).hd _ _ v
     rw [h2,h1];exact h3) ρf hex hro hv⟩
   ·cases h
  ·split at h
   ·rename_i hb
    cases h;obtain ⟨hp1,hp2⟩:=mP.1 hp;exact ⟨(eY hb).1,fun ρf hex hro v hv=>ref hb (p:=fun s=>_≤s.len∧cH (mu _).hd 0 _ v) (fun s s' h1 h2 h3=>by
     rw [←hp1,←show _=_ from hp2]
     show 0+_≤s'.len∧cH (mu' _).hd 0 _ v
     rw [h2,h1,Nat.zero_add];exact h3) ρf hex hro hv⟩
   ·cases h
  ·split at h
   ·rename_i hL
    split at h
    ·rename_i hb
     cases h;obtain ⟨hp1,hp2⟩:=mP.1 hp;exact ⟨(eY hb).1,fun ρf hex hro v hv=>by
      have hp1:0=_:=hp1
      have hp2:_=_:=hp2
      subst hp1;subst hp2
      show bV _ _ _ (fun s=>0+_≤s.len∧_) _
      rw [Nat.zero_add];exact own hL hb hex hro hv⟩
    ·cases h
   ·cases h
  ·cases h
 ·split at h
  ·split at h
   ·rename_i hb
    split at h
    ·rename_i hx
     cases h;have hx:=Nat.eq_of_beq_eq_true hx
     exact ⟨(eY hb).1,fun ρf hex hro v hv=>ref hb (p:=fun s=>_<s.len∧∃b,ai (mu _).hd=some b∧v=.pointer (some ⟨b,_,none⟩)) (fun s s' h1 h2 h3=>by
      rw [←hx]
      show _<s'.len∧∃b,ai (mu' _).hd=some b∧v=.pointer (some ⟨b,_,none⟩)
      rw [h2,h1];exact h3) ρf hex hro hv⟩
    ·cases h
   ·cases h
  ·cases h
 ·split at h
  ·split at h
   ·rename_i hf
    split at h
    ·rename_i hb
     cases h;rw [Bool.and_eq_true] at hf;have hz:=Nat.eq_of_beq_eq_true hf.1
     refine ⟨(eY hb).1,fun ρf hex hro v hv=>?_⟩
     obtain ⟨nb,h1,h1f,ob,h2,h2f,h3,h4,_⟩:=hro _ _ (hex _ _ (eY hb).2);have hfr:=hf.2
     unfold lF at hfr;rw [h2] at hfr;have h5:=Nat.eq_of_beq_eq_true hfr
     have h6:=aV h2 hv
     refine ft h1 hv.1 ⟨by rw [hz];exact Nat.zero_le _,fun _=>?_⟩
     rw [h3,←show _=_ from hp]
     show (mu' _).ins[_]?=some v∧_
     rw [h4];exact h6.2 h5
    ·cases h
   ·cases h
  ·cases h
 ·split at h
  ·split at h
   ·rename_i hd
    cases h;have:=gI hd hp
    subst this;exact ⟨.refl _,fun _ _ _ v hv=>hv⟩
   ·cases h
  ·split at h
   ·rename_i ho
    split at h
    ·rename_i hd
     cases h;have:=gI hd hp
     subst this;refine ⟨.refl _,fun _ _ _ v hv=>?_⟩
     have h2:=hv.2
     have e:(σ.env C.wF mu).st _=.frz _:=gg ho
     rw [e] at h2;exact h2
    ·cases h
   ·cases h
  ·split at h
   ·rename_i ho
    split at h
    ·rename_i ht
     split at h
     ·rename_i hd
      cases h;have:=gI hd hp
      subst this;refine ⟨.refl _,fun _ _ _ v hv=>?_⟩
      have h2:=hv.2
      have e:(σ.env C.wF mu).st _=.frz _:=gg ho
      rw [e] at h2;obtain ⟨d',q1,q2⟩:=h2;rw [ht] at q1;cases q1;exact q2
     ·cases h
    ·cases h
   ·cases h
  ·split at h
   ·rename_i ho
    split at h
    ·rename_i ht
     split at h
     ·rename_i hd
      cases h;have:=gI hd hp
      subst this;refine ⟨.refl _,fun _ _ _ v hv=>?_⟩
      have h2:=hv.2
      have e:(σ.env C.wF mu).st _=.frz _:=gg ho
      rw [e] at h2;obtain ⟨d',q1,q2⟩:=h2;rw [ht] at q1;cases q1;exact q2
     ·cases h
    ·cases h
   ·cases h
  ·split at h
   ·cases h
   ·rename_i hs
    cases h;refine ⟨.refl _,fun _ _ _ v hv=>?_⟩
    simp only [ap] at hv;subst hv;exact ⟨⟨_,_,_,rfl,Nat.le_refl _⟩,Mw hs hp _⟩
  ·cases h
 ·split at h
  ·cases h
   obtain ⟨hp1,hp2⟩:=mP.1 hp;have hp2:_=_:=hp2
   subst hp1;subst hp2;exact ⟨.refl _,fun _ _ _ v hv=>hv⟩
  ·cases h
 ·split at h
  ·split at h
   ·rename_i hf
    split at h
    ·rename_i hb
     split at h
     ·rename_i hd
      cases h;have:=gI hd hp
      subst this;rw [Bool.and_eq_true] at hf;have hj:=Nat.eq_of_beq_eq_true hf.1
      refine ⟨(eY hb).1,fun ρf hex hro v hv=>⟨hv.1,?_⟩⟩
      obtain ⟨nb,h1,h1f,ob,h2,h2f,h3,h4,_⟩:=hro _ _ (hex _ _ (eY hb).2);have hfr:=hf.2
      unfold lF at hfr;rw [h2] at hfr;have h5:=Nat.eq_of_beq_eq_true hfr
      have h6:=aV h2 hv.2
      refine ft h1 hv.2.1 fun _=>?_
      show (mu' _).ins[_]?=_
      rw [h4,←hj];exact h6 h5
     ·cases h
    ·cases h
   ·cases h
  ·cases h
 ·cases h
theorem xf:∀{cs ns:List SC} {ρ ρ':dc} {ps:List Prop},kJ σ ρ cs ns=some (ρ',ps)→fX ps→eF ρ ρ'∧ns.length=cs.length∧∀ρf,eF ρ' ρf→kL σ n mu mu' ρf→∀arr,dO (σ.env C.wF mu) cs arr→dO (n.env C.wF mu') ns arr
 | [],[],ρ,ρ',ps,h,hp=>by
  simp only [kJ] at h;cases h;exact ⟨.refl _,rfl,fun _ _ _ arr ha=>⟨ha.1,fun i c hc=>by simp at hc⟩⟩
 | [],_::_,ρ,ρ',ps,h,_=>by simp [kJ] at h
 | _::_,[],ρ,ρ',ps,h,_=>by simp [kJ] at h
 | c::cs,d::ns,ρ,ρ',ps,h,hp=>by
  simp only [kJ] at h;split at h
  ·rename_i ρ1 ps1 h1
   split at h
   ·rename_i ρ2 qs h2
    cases h;obtain ⟨hp1,hp2⟩:=w6.1 hp;obtain ⟨k1,k2⟩:=Mx (C:=C) (σ:=σ) (n:=n) (mu:=mu) (mu':=mu') h1 hp1;obtain ⟨m1,m2,m3⟩:=xf h2 hp2;refine ⟨k1.trans m1,by simp [m2],fun ρf hex hro arr ha=>⟨by rw [ha.1];simp [m2],fun i x hx=>?_⟩⟩
    have tl:dO (σ.env C.wF mu) cs (arr.extract 1 arr.size):=by
     have hsz:=ha.1
     simp only [List.length_cons] at hsz;refine ⟨by simp [hsz],fun j y hy=>?_⟩
     obtain ⟨u,q1,q2⟩:=ha.2 (j+1) y (by simpa using hy)
     have hlt:j+1<arr.size:=(Array.getElem?_eq_some_iff.1 q1).1
     refine ⟨u,?_,q2⟩
     rw [Array.getElem?_extract,if_pos (by omega),Nat.add_comm 1 j]
     exact q1
    cases i with
    | zero =>
     simp at hx;subst hx
     obtain ⟨u,q1,q2,q3⟩:=ha.2 0 c rfl;exact ⟨u,q1,q2,k2 ρf (m1.trans hex) hro u q3⟩
    | succ i =>
     obtain ⟨u,q1,q2⟩:=(m3 ρf hex hro _ tl).2 i x (by simpa using hx)
     refine ⟨u,?_,q2⟩
     have hlt:=(Array.getElem?_eq_some_iff.1 q1).1
     simp at hlt
     rw [Array.getElem?_extract,if_pos (by omega),Nat.add_comm 1 i] at q1
     exact q1
   ·cases h
  ·cases h
theorem Xn {ρ ρ':dc} {v d:SV} {ps:List Prop} (h:EY σ ρ v d=some (ρ',ps)) (hp:fX ps):eF ρ ρ'∧∀ρf,eF ρ' ρf→kL σ n mu mu' ρf→∀u,aB C.P (σ.env C.wF mu) v u→aB C.P (n.env C.wF mu') d u:=by
 unfold EY at h;split at h
 ·exact Mx h hp
 ·obtain ⟨h1,_,h2⟩:=xf (C:=C) (σ:=σ) (n:=n) (mu:=mu) (mu':=mu') h hp
  refine ⟨h1,fun ρf hex hro u hu=>?_⟩
  obtain ⟨arr,rfl,ha⟩:=hu;exact ⟨arr,rfl,h2 ρf hex hro arr ha⟩
 ·split at h
  ·rename_i hf
   obtain ⟨h1,_,h2⟩:=xf (C:=C) (σ:=σ) (n:=n) (mu:=mu) (mu':=mu') h hp;refine ⟨h1,fun ρf hex hro u hu=>?_⟩
   obtain ⟨arr,rfl,ha⟩:=hu;exact ⟨arr,by rw [Nat.eq_of_beq_eq_true hf],h2 ρf hex hro arr ha⟩
  ·cases h
 ·cases h
  have hp:_=_:=hp
  subst hp;exact ⟨.refl _,fun _ _ _ u hu=>hu⟩
 ·rename_i o F o' F'
  cases hb:fI ρ o' (some o) with
  | none=>simp [hb] at h
  | some ρ1 =>
   simp [hb] at h
   obtain ⟨rfl,rfl⟩:=h;have hp:F=F':=hp
   subst hp;refine ⟨(eY hb).1,fun ρf hex hro u hu=>?_⟩
   have hu:bV _ _ _ _:=hu
   obtain ⟨nb,h1,h1f,ob,h2,h2f,h3,h4,_⟩:=hro o' _ (hex _ _ (eY hb).2);obtain ⟨b,hb1,hb2⟩:=aV h2 hu;exact ft h1 hu.1 ⟨b,(show (mu' o').hd=_ by rw [h4];exact hb1),hb2⟩
 ·cases h
theorem My:∀{l:List (Nat×SV)} {ρ ρ':dc} {ps:List Prop},qF σ ρ l=some (ρ',ps)→fX ps→eF ρ ρ'∧∀ρf,eF ρ' ρf→kL σ n mu mu' ρf→∀t d,lk l t=some d→∃v,σ.F t=some v∧∀u,aB C.P (σ.env C.wF mu) v u→aB C.P (n.env C.wF mu') d u
 | [],ρ,ρ',ps,h,hp=>by
  simp only [qF] at h;cases h;exact ⟨.refl _,fun _ _ _ t d ht=>by simp [lk] at ht⟩
 | (t0,d0)::l,ρ,ρ',ps,h,hp=>by
  simp only [qF] at h;split at h
  ·rename_i v hv
   split at h
   ·rename_i ρ1 ps1 h1
    split at h
    ·rename_i ρ2 qs h2
     cases h;obtain ⟨hp1,hp2⟩:=w6.1 hp;obtain ⟨k1,k2⟩:=Xn (C:=C) (σ:=σ) (n:=n) (mu:=mu) (mu':=mu') h1 hp1;obtain ⟨m1,m2⟩:=My h2 hp2;refine ⟨k1.trans m1,fun ρf hex hro t d ht=>?_⟩
     rw [bC] at ht;split at ht
     ·rename_i htt;subst htt;cases ht
      exact ⟨v,hv,k2 ρf (m1.trans hex) hro⟩
     ·exact m2 ρf hex hro t d ht
    ·cases h
   ·cases h
  ·cases h
theorem Xo {pd:Bool} {ρ ρ':dc} {ob nb:Ob} {ps:List Prop} (h:EZ σ pd ρ ob nb=some (ρ',ps)) (hp:fX ps):eF ρ ρ'∧(nb.shp.len=ob.shp.len∧nb.isFz=false∧ob.isFz=false)∧(pd=true→ob.shp.ver≤nb.shp.ver) ∧
  ∀ρf,eF ρ' ρf→kL σ n mu mu' ρf→∀m,bn (σ.env C.wF mu) w m ob→bn (n.env C.wF mu') w m nb:=by
 unfold EZ at h;split at h
 ·obtain ⟨h1,h2,h3⟩:=xf (C:=C) (σ:=σ) (n:=n) (mu:=mu) (mu':=mu') h hp
  refine ⟨h1,⟨h2,rfl,rfl⟩,fun _=>Nat.le_refl _,fun ρf hex hro m hm=>?_⟩
  obtain ⟨b,arr,t,q1,q2,q3,q4⟩:=hm;exact ⟨b,arr,t,q1,q2,q3,h3 ρf hex hro arr q4⟩
 ·split at h
  ·rename_i hk
   obtain ⟨rfl,rfl⟩:=hk;cases h;have hp:_=_:=hp
   subst hp;exact ⟨.refl _,⟨rfl,rfl,rfl⟩,fun _=>Nat.le_refl _,fun _ _ _ m hm=>hm⟩
  ·cases h
 ·split at h
  ·rename_i hk
   subst hk;cases h;have hp:_=_:=hp
   subst hp;exact ⟨.refl _,⟨rfl,rfl,rfl⟩,fun _=>Nat.le_refl _,fun _ _ _ m hm=>hm⟩
  ·cases h
 ·split at h
  ·rename_i hk
   subst hk;cases h;have hp:_=_:=hp
   subst hp;exact ⟨.refl _,⟨rfl,rfl,rfl⟩,fun _=>Nat.le_refl _,fun _ _ _ m hm=>hm⟩
  ·cases h
 ·split at h
  ·rename_i hk
   obtain ⟨rfl,rfl,rfl,hv⟩:=hk;cases h;have hp:_=_:=hp
   subst hp;exact ⟨.refl _,⟨rfl,rfl,rfl⟩,hv,fun _ _ _ m hm=>hm⟩
  ·cases h
 ·split at h
  ·rename_i hk
   obtain ⟨rfl,hv⟩:=hk;split at h
   ·rename_i hd
    cases h;have:=gI hd hp
    subst this;exact ⟨.refl _,⟨rfl,rfl,rfl⟩,hv,fun _ _ _ m hm=>hm⟩
   ·cases h
  ·cases h
 ·cases h
  have hp:_=_:=hp
  subst hp;exact ⟨.refl _,⟨rfl,rfl,rfl⟩,fun _=>Nat.le_refl _,fun _ _ _ m hm=>hm⟩
 ·split at h
  ·rename_i hes
   have hes:=jB hes
   subst hes;split at h
   ·rename_i hv
    split at h
    ·rename_i hd
     cases h;have:=gI hd hp
     subst this;exact ⟨.refl _,⟨rfl,rfl,rfl⟩,hv,fun _ _ _ m hm=>hm⟩
    ·cases h
   ·cases h
  ·cases h
 ·split at h
  ·rename_i hk
   obtain ⟨rfl,rfl⟩:=hk;cases h;have hp:_=_:=hp
   subst hp;exact ⟨.refl _,⟨rfl,rfl,rfl⟩,fun _=>Nat.le_refl _,fun _ _ _ m hm=>hm⟩
  ·cases h
 ·split at h
  ·rename_i hk
   obtain ⟨rfl,rfl⟩:=hk;cases h;have hp:_=_:=hp
   subst hp;exact ⟨.refl _,⟨rfl,rfl,rfl⟩,fun _=>Nat.le_refl _,fun _ _ _ m hm=>⟨hm.1,Em hm.2⟩⟩
  ·cases h
 ·cases h
theorem Xp {nb:Ob} {p:Prop} (h:w9 nb=some p):nb.isFz=false:=by cases nb <;> first | rfl | cases h
theorem Xq {nb:Ob} {p:Prop} (h:w9 nb=some p) (hp:p) (E:Env):bn E w ⟨.slice none 0 0,[]⟩ nb:=by
 unfold w9 at h;split at h
 ·cases h;have hp:_=_:=hp;subst hp;exact ⟨rfl,World.ownsRow_nil _ _ _ _⟩
 ·cases h;have hp:_=_:=hp;subst hp;exact ⟨rfl,World.ownsRow_nil _ _ _ _⟩
 ·cases h;have hp:_=_:=hp;subst hp;exact ⟨World.ownsRow_nil _ _ _ _,rfl,fun i v r hi=>by simp at hi⟩
 ·cases h
  have hp:_=_:=hp
  exact ⟨rfl,[],by rw [hp];exact World.ownsRow_nil _ _ _ _,fun i u hi=>by simp at hi⟩
 ·cases h
theorem E5 {pins:List Nat}:∀{l:List (Nat×Option Ob)} {ρ ρ':dc} {ps:List Prop},mQ σ pins ρ l=some (ρ',ps)→fX ps→eF ρ ρ' ∧
  ∀o' x,lk l o'=some x→∃nb,x=some nb∧nb.isFz=false∧∃y,lk ρ' o'=some y∧match y with
   | some o=>∃ob,σ.H o=some (some ob)∧ob.isFz=false∧nb.shp.len=ob.shp.len∧(o'∈pins→ob.shp.ver≤nb.shp.ver)∧∀ρf,eF ρ' ρf→kL σ n mu mu' ρf→∀m,bn (σ.env C.wF mu) w m ob→bn (n.env C.wF mu') w m nb
   | none=>∀E,bn E w ⟨.slice none 0 0,[]⟩ nb
 | [],ρ,ρ',ps,h,hp=>by
  simp only [mQ] at h;cases h;exact ⟨.refl _,fun o' x hx=>by simp [lk] at hx⟩
 | (_,none)::_,ρ,ρ',ps,h,_=>by simp [mQ] at h
 | (o0,some n0)::l,ρ,ρ',ps,h,hp=>by
  simp only [mQ] at h;split at h
  ·rename_i o ho
   split at h
   ·rename_i ob hob
    split at h
    ·rename_i ρ1 ps1 h1
     split at h
     ·rename_i ρ2 qs h2
      cases h;obtain ⟨hp1,hp2⟩:=w6.1 hp;obtain ⟨k1,k2,k3,k4⟩:=Xo (C:=C) (σ:=σ) (n:=n) (mu:=mu) (mu':=mu') (w:=w) h1 hp1;obtain ⟨m1,m2⟩:=E5 h2 hp2;refine ⟨k1.trans m1,fun o' x hx=>?_⟩
      rw [bC] at hx;split at hx
      ·rename_i hoo;subst hoo;cases hx
       refine ⟨n0,rfl,k2.2.1,some o,m1 _ _ (k1 _ _ ho),ob,hob,k2.2.2,k2.1,fun hpin=>k3 ?_,fun ρf hex hro m hm=>k4 ρf (m1.trans hex) hro m hm⟩
       cases hn:fo o0 pins with
       | false=>rfl
       | true=>exact absurd hpin (lD hn)
      ·exact m2 o' x hx
     ·cases h
    ·cases h
   ·cases h
  ·rename_i ho
   split at h
   ·rename_i p hnil
    split at h
    ·rename_i ρ2 qs h2
     cases h;obtain ⟨hp1,hp2⟩:=mP.1 hp;obtain ⟨m1,m2⟩:=E5 h2 hp2;refine ⟨m1,fun o' x hx=>?_⟩
     rw [bC] at hx;split at hx
     ·rename_i hoo;subst hoo;cases hx
      exact ⟨n0,rfl,Xp hnil,none,m1 _ _ ho,fun E=>Xq hnil hp1 E⟩
     ·exact m2 o' x hx
    ·cases h
   ·cases h
  ·cases h
theorem E6 {hp:List (Nat×Option Ob)}:∀{ρ:dc},xa hp ρ=true→∀o x,lk ρ o=some x→∃nb,lk hp o=some (some nb)
 | [],_,o,x,h=>by simp [lk] at h
 | (k,y)::ρ,hk,o,x,h=>by
  simp only [xa,Bool.and_eq_true] at hk;rw [bC] at h;split at h
  ·rename_i hko;subst hko
   have:=hk.1
   split at this
   ·rename_i nb hnb;exact ⟨nb,hnb⟩
   ·cases this
  ·exact E6 hk.2 o x h
theorem Mz {ρ:dc}:∀{pins:List Nat},xb ρ pins=true→∀p∈pins,lk ρ p=some (some p)
 | [],_,p,h=>by simp at h
 | q::pins,hk,p,h=>by
  simp only [xb,Bool.and_eq_true] at hk;rcases List.mem_cons.1 h with rfl | h
  ·have:=hk.1
   split at this
   ·rename_i q hq;rw [hq,Nat.eq_of_beq_eq_true this]
   ·cases this
  ·exact Mz hk.2 p h
theorem xg:∀{ρ:dc} {k o:Nat},(k,some o)∈ρ→o∈kK ρ
 | [],_,_,h=>by simp at h
 | (k',some o')::ρ,k,o,h=>by
  simp only [kK];rcases List.mem_cons.1 h with h | h
  ·cases h;simp
  ·exact List.mem_cons_of_mem _ (xg h)
 | (k',none)::ρ,k,o,h=>by
  simp only [kK];rcases List.mem_cons.1 h with h | h
  ·cases h
  ·exact xg h
theorem E7:∀{ρ:dc},(kK ρ).Nodup→∀k k' o,(k,some o)∈ρ→(k',some o)∈ρ→(k,some o)=((k',some o):Nat×Option Nat)
 | [],_,k,k',o,h,_=>by simp at h
 | (q,none)::ρ,hn,k,k',o,h,h'=>by
  simp only [kK] at hn;rcases List.mem_cons.1 h with h | h
  ·cases h
  ·rcases List.mem_cons.1 h' with h' | h'
   ·cases h'
   ·exact E7 hn k k' o h h'
 | (q,some x)::ρ,hn,k,k',o,h,h'=>by
  simp only [kK] at hn;obtain ⟨h1,h2⟩:=List.nodup_cons.1 hn;rcases List.mem_cons.1 h with h | h
  ·rcases List.mem_cons.1 h' with h' | h'
   ·rw [h,h']
   ·cases h;exact absurd (xg h') h1
  ·rcases List.mem_cons.1 h' with h' | h'
   ·cases h';exact absurd (xg h) h1
   ·exact E7 h2 k k' o h h'
theorem E8 {α:Type}:∀{l:List (Nat×α)} {o:Nat} {x:α},lk l o=some x→(o,x)∈l
 | [],o,x,h=>by simp [lk] at h
 | (k,v)::l,o,x,h=>by
  rw [bC] at h;split at h
  ·rename_i hk;subst hk;cases h;simp
  ·exact List.mem_cons_of_mem _ (E8 h)
theorem Xr {pins:List Nat} (hpins:∀o m,C.pin o=some m→o∈pins) {ps:List Prop} (hs:E3 σ n pins=some ps) (hp:fX ps) (h:aN C σ a w):aN C n a w:=by
 obtain ⟨wG,mu,hgf,h⟩:=h;unfold E3 at hs;split at hs
 ·cases hs
 ·rename_i ρ ps1 h1
  split at hs
  ·cases hs
  ·rename_i ρ' qs h2
   split at hs
   ·rename_i hchk
    cases hs;simp only [Bool.and_eq_true] at hchk;obtain ⟨⟨⟨hn,hk⟩,hpi⟩,_⟩:=hchk;obtain ⟨hp1,hp2⟩:=w6.1 hp
    let mu':Nat→Img:=fun o'=>match lk ρ' o' with
     | some (some o)=>mu o
     | some none=>⟨.slice none 0 0,[]⟩
     | none=>⟨undef,[]⟩
    obtain ⟨k1,k2⟩:=My (C:=C.fz wG) (σ:=σ) (n:=n) (mu:=mu) (mu':=mu') h1 hp1;obtain ⟨m1,m2⟩:=E5 (C:=C.fz wG) (σ:=σ) (n:=n) (mu:=mu) (mu':=mu') (w:=w) h2 hp2;have hro:kL σ n mu mu' ρ':=fun o' x hx=>by
     obtain ⟨nb,hnb⟩:=E6 hk o' x hx;obtain ⟨nb',e1,e1f,y,e2,e3⟩:=m2 o' _ hnb;cases e1;have:y=x:=Option.some.inj (e2.symm.trans hx)
     subst this;refine ⟨nb,hnb,e1f,?_⟩
     cases y with
     | some o =>
      obtain ⟨ob,q1,q1f,q2,_⟩:=e3;exact ⟨ob,q1,q1f,q2,by simp only [mu',hx],fun L hL=>mB hL (h.ob o ob q1)⟩
     | none=>simp only [mu',hx]
    have hob:∀o' nb,n.H o'=some (some nb)→(∃o ob,lk ρ' o'=some (some o)∧σ.H o=some (some ob)∧mu' o'=mu o∧(nb.isFz=false∧ob.isFz=false)∧(o'∈pins→ob.shp.ver≤nb.shp.ver)∧bn (n.env wG mu') w (mu' o') nb) ∨
      (lk ρ' o'=some none∧mu' o'=⟨.slice none 0 0,[]⟩∧bn (n.env wG mu') w (mu' o') nb):=fun o' nb hnb=>by
     obtain ⟨nb',e1,e1f,y,e2,e3⟩:=m2 o' _ hnb;cases e1;cases y with
     | some o =>
      obtain ⟨ob,q1,q1f,q2,q3,q4⟩:=e3;have hmu:mu' o'=mu o:=by simp only [mu',e2]
      exact .inl ⟨o,ob,e2,q1,hmu,⟨e1f,q1f⟩,q3,by rw [hmu];exact q4 ρ' (.refl _) hro _ (h.ob o ob q1)⟩
     | none =>
      have hmu:mu' o'=⟨.slice none 0 0,[]⟩:=by simp only [mu',e2]
      exact .inr ⟨e2,hmu,by rw [hmu];exact e3 _⟩
    refine ⟨wG,mu',hgf,h.os,h.tape,h.output,h.size,h.block,fun p u hp=>⟨fun o' nb ho hb=>?_,(h.cells p u hp).2⟩,h.sz,h.df,fun t sv ht=>?_,fun o' nb ho=>?_,fun o' nb ho=>?_,fun o1 o2 n1 n2 hne ho1 ho2 b hb hb'=>?_,fun o m hpm=>?_⟩
    ·rcases hob o' nb ho with ⟨o,ob,_,q1,q2,_⟩ | ⟨_,q2,_⟩
     ·rw [q2] at hb;exact (h.cells p u hp).1 o ob q1 hb
     ·rw [q2] at hb;simp [Img.blocks,ai] at hb
    ·obtain ⟨v,q1,q2⟩:=k2 ρ' m1 hro t sv ht
     exact q2 _ (h.fr t v q1)
    ·rcases hob o' nb ho with ⟨_,_,_,_,_,_,_,q⟩ | ⟨_,_,q⟩ <;> exact q
    ·rcases hob o' nb ho with ⟨o,ob,_,q1,q2,_⟩ | ⟨_,q2,_⟩
     ·rw [q2];exact h.nd o ob q1
     ·rw [q2];simp [Img.blocks,ai]
    ·rcases hob o1 n1 ho1 with ⟨x1,y1,l1,q1,q2,_⟩ | ⟨_,q2,_⟩
     ·rcases hob o2 n2 ho2 with ⟨x2,y2,l2,r1,r2,_⟩ | ⟨_,r2,_⟩
      ·rw [q2] at hb;rw [r2] at hb'
       refine h.sep x1 x2 y1 y2 (fun hc=>hne ?_) q1 r1 b hb hb'
       subst hc;have:=E7 (qv hn) o1 o2 x1 (E8 l1) (E8 l2)
       simpa using this
      ·rw [r2] at hb';simp [Img.blocks,ai] at hb'
     ·rw [q2] at hb;simp [Img.blocks,ai] at hb
    ·have hop:=hpins o m hpm
     have hlk:=Mz hpi o hop
     obtain ⟨nb,hnb⟩:=E6 hk o _ hlk;have hH:n.H o=some (some nb):=hnb
     rcases hob o nb hH with ⟨x1,y1,l1,q1,q2,⟨qf1,qf2⟩,q4,_⟩ | ⟨q1,_⟩
     ·rw [eR hH qf1]
      have:x1=o:=by rw [hlk] at l1;cases l1;rfl
      subst this;have h3:=h.pins x1 m hpm
      rw [eR q1 qf2] at h3;rw [q2];exact ⟨h3.1,fun hv=>h3.2 (by have:=q4 hop;omega)⟩
     ·rw [hlk] at q1;cases q1
   ·cases hs
def dT (σ:State) (l:List (Nat×Option Ob)):Prop:=∀o x,(o,x)∈l→∃ob ob',σ.H o=some (some ob)∧x=some ob'∧Cv ob ob'
theorem dT.app {l l':List (Nat×Option Ob)} (h:dT σ l) (k:dT σ l'):dT σ (l++l'):=fun o x hm=>(List.mem_append.1 hm).elim (h o x) (k o x)
theorem dT.nil:dT σ []:=fun o x hm=>by simp at hm
theorem oA {o:Nat}:dT σ (lG σ o):=by
 unfold lG;split
 ·rename_i ob ho
  split
  ·exact .nil
  ·split
   ·rename_i d hd
    intro o' x hm
    simp at hm
    obtain ⟨rfl,rfl⟩:=hm;exact ⟨ob,_,ho,rfl,.inl ⟨d,hd,rfl⟩⟩
   ·exact .nil
 ·exact .nil
theorem MA {o:Nat}:dT σ (xc σ o):=by
 unfold xc;split
 ·rename_i v e ei k l ho
  intro o' x hm
  simp at hm
  obtain ⟨rfl,rfl⟩:=hm;exact ⟨_,_,ho,rfl,.inr ⟨v,e,ei,k,l,rfl,rfl⟩⟩
 ·exact .nil
theorem MB {c d:SC}:dT σ (xd σ n c d):=by
 unfold xd;split
 ·exact oA
 ·exact oA
 ·exact oA
 ·split
  ·exact MA
  ·exact .nil
 ·exact .nil
theorem E9:∀{cs ds:List SC},dT σ (xe σ n cs ds)
 | [],_=>.nil
 | _::_,[]=>.nil
 | _::_,_::_=>dT.app MB E9
theorem Xs {v d:SV}:dT σ (E4 σ n v d):=by
 unfold E4;split
 ·split
  ·split
   ·exact E9
   ·exact .nil
  ·exact MB
 ·exact E9
 ·exact .nil
theorem Fa:∀{l:List (Nat×SV)},dT σ (qG σ n l)
 | []=>.nil
 | (t,d)::l=>by
  unfold qG;split
  ·exact dT.app Xs Fa
  ·exact Fa
theorem Fb:∀{l:List (Nat×Option Ob)},dT σ l→dT σ (jP l)∧((jP l).map (·.1)).Nodup
 | [],_=>⟨.nil,by simp [jP]⟩
 | (o,x)::l,h=>by
  obtain ⟨h1,h2⟩:=Fb (l:=l) fun o' x' hm=>h o' x' (List.mem_cons_of_mem _ hm)
  unfold jP;split
  ·rename_i hn
   refine ⟨fun o' x' hm=>?_,?_⟩
   ·rcases List.mem_cons.1 hm with hm | hm
    ·cases hm;exact h o x (List.mem_cons_self ..)
    ·exact h1 o' x' hm
   ·rw [List.map_cons]
    exact List.nodup_cons.2 ⟨lD hn,h2⟩
  ·exact ⟨h1,h2⟩
theorem St.cvs (h:St C σ mu a w):∀{fs:List (Nat×Option Ob)},dT σ fs→(fs.map (·.1)).Nodup →
  ∃wG mu',GrowF C wG∧St (C.fz wG) ⟨σ.fr,fs++σ.hp⟩ mu' a w∧cz (σ.env C.wF mu) ((State.mk σ.fr (fs++σ.hp)).env wG mu')
 | [],_,_=>⟨C.wF,mu,.refl C,h,cz.refl _⟩
 | (o,x)::fs,hc,hn=>by
  rw [List.map_cons] at hn;obtain ⟨n1,n2⟩:=List.nodup_cons.1 hn;obtain ⟨wG,mu1,g1,s1,e1⟩:=St.cvs h (fs:=fs) (fun o' x' hm=>hc o' x' (List.mem_cons_of_mem _ hm)) n2
  obtain ⟨ob,ob',q1,rfl,q2⟩:=hc o x (List.mem_cons_self ..);have hno:∀x,(o,x) ∉ fs:=fun x hm=>n1 (List.mem_map.2 ⟨_,hm,rfl⟩)
  obtain ⟨wH,mu2,g2,s2,_,e2⟩:=s1.cv1 (by rw [gG hno];exact q1) q2
  exact ⟨wH,mu2,g1.trans g2,s2,e1.trans e2⟩
theorem aN.cvs (h:aN C σ a w) {fs:List (Nat×Option Ob)} (hc:dT σ fs):aN C ⟨σ.fr,jP fs++σ.hp⟩ a w:=by
 obtain ⟨wG,mu,hg,h⟩:=h;obtain ⟨h1,h2⟩:=Fb hc;obtain ⟨wH,mu1,g1,s1,_⟩:=h.cvs h1 h2;exact ⟨wH,mu1,hg.trans g1,s1⟩
theorem Xt (h:aN C σ a w):aN C (Mv σ n) a w:=h.cvs Fa
end
end Go.Sx
end
section
namespace Go.Sx
open Go.RowKit
inductive Ann where
 | mk (X:Type) (inv:X→State) (pre:X→Prop) (m:X→Nat) (sub:X→Nat→Option Ann)
 | peel (M:Nat) (X:Type) (inv:X→State) (pre:X→Prop) (m:X→Nat) (sub:X→Nat→Option Ann)
def xh (f g:Nat→Option Ann) (n:Nat):Option Ann :=
 match f n with
 | some a=>some a
 | none=>g n
def mR (σ n:State) (pins:List Nat):Prop :=
 match E3 (Mv σ n) n pins with
 | none=>False
 | some ps=>fX ps
structure Kn where
 P:Program
 Γ:FuncId→Option Ctr
 wr:Nat→Bool
 N:Nat
 pins:List Nat
def MC:Code→Option Nat
 | .region id _ _=>some id
 | .seq a _=>MC a
 | _=>none
def Xu (ann:Nat→Option Ann) (b:Code):Option Ann:=match MC b with
 | some r=>ann (r+1000)
 | none=>none
def fJ (k:Kn):Code→Nat→(Nat→Option Ann)→State→(Exit→State→Prop)→Prop
 | .skip,_,_,σ,K=>K .normal σ
 | .label _,_,_,σ,K=>K .normal σ
 | .ret,_,_,σ,K=>K .ret σ
 | .exit id,_,_,σ,K=>K (.exit id) σ
 | .region _ ops draw,_,_,σ,K=>match draw with
  | false=>kH k.P k.Γ k.wr k.N ops ops.toList 0 σ [] fun σ' _=>K .normal σ'
  | true=>match k.P.follows .mixedOrders with
   | true=>kH k.P k.Γ k.wr k.N ops ops.toList 0 σ [] fun σ' es=>match EQ ops.toList es with
    | true=>K .normal σ'
    | false=>False
   | false=>False
 | .seq a b,_,ann,σ,K=>match Xu ann b with
  | some (.mk _ inv pre _ sub)=>(fJ k a 0 ann σ fun e σ'=>match e with
   | .normal=>∃x,pre x∧mR σ' (inv x) k.pins
   | e=>K e σ')∧∀x,pre x→fJ k b 0 (xh (sub x) ann) (inv x) K
  | _=>fJ k a 0 ann σ fun e σ'=>match e with
   | .normal=>fJ k b 0 ann σ' K
   | e=>K e σ'
 | .cond c a b,_,ann,σ,K=>match c with
  | .tmp t=>match σ.F t with
   | some (.c (.bool x))=>ac x (fJ k a 0 ann σ K) (fJ k b 0 ann σ K)
   | _=>False
  | _=>False
 | .block id c,_,ann,σ,K=>fJ k c id ann σ fun e σ'=>match e with
  | .exit id'=>match Nat.beq id' id with
   | true=>K .normal σ'
   | false=>K (.exit id') σ'
  | e=>K e σ'
 | .loop c,cur,ann,σ,K=>match ann cur with
  | none=>False
  | some (.mk _ inv pre m sub)=>(∃x,pre x∧mR σ (inv x) k.pins)∧∀x,pre x→fJ k c 0 (xh (sub x) ann) (inv x) fun e σ'=>match e with
   | .normal=>∃x',pre x'∧m x'<m x∧mR σ' (inv x') k.pins
   | e=>K e σ'
  | some (.peel M _ inv pre m sub)=>(fJ k c 0 ann σ fun e σ'=>match e with
   | .normal=>∃x',pre x'∧m x'<M∧mR σ' (inv x') k.pins
   | e=>K e σ')∧∀x,pre x→fJ k c 0 (xh (sub x) ann) (inv x) fun e σ'=>match e with
   | .normal=>∃x',pre x'∧m x'<m x∧mR σ' (inv x') k.pins
   | e=>K e σ'
 | _,_,_,_,_=>False
section
variable {C:Cx}
def ME (C:Cx) (K:Exit→State→Prop):Exit→Act→World→Prop:=fun e a w=>∃σ',aN C σ' a w∧K e σ'
theorem Xv {σ:State} {a:Act} {w:World} (h:aN C σ a w):aN C σ a { w with drawn:=w.drawn+1 }:=by
 obtain ⟨wG,mu,hg,q⟩:=h;exact ⟨wG,mu,hg,⟨q.os.os,Nat.le_succ_of_le q.os.drawn⟩,q.tape,q.output,q.size,q.block,q.cells,q.sz,q.df,q.fr,fun o ob ho=>(q.ob o ob ho).keep (cz.refl _) (fun _ _=>rfl),q.nd,q.sep,q.pins⟩
theorem Xw {k:Kn} (hP:k.P=C.P) (hΓ:dE C.P k.Γ) (hN:k.N=C.N) (hpins:∀o m,C.pin o=some m→o∈k.pins) :
  ∀(c:Code) (cur:Nat) (ann:Nat→Option Ann) (σ:State) (K:Exit→State→Prop),fJ k c cur ann σ K→∀a w,aN C σ a w→c.wp C.P (ME C K) a w:=by
 have sp:∀{σ n:State} {a w},mR σ n k.pins→aN C σ a w→aN C n a w:=fun {σ n a w} h1 h2=>by
  unfold mR at h1;split at h1
  ·exact h1.elim
  ·rename_i ps hps
   exact Xr hpins hps h1 (Xt h2)
 intro c
 induction c with
 | skip=>intro cur ann σ K h a w hs;exact wp_skip ⟨σ,hs,h⟩
 | label l=>intro cur ann σ K h a w hs;exact wp_label ⟨σ,hs,h⟩
 | ret=>intro cur ann σ K h a w hs;exact wp_ret ⟨σ,hs,h⟩
 | exit id=>intro cur ann σ K h a w hs;exact wp_exit ⟨σ,hs,h⟩
 | region id ops draw =>
  intro cur ann σ K h a w hs
  simp only [fJ] at h;rw [hP,hN] at h;split at h
  ·obtain ⟨es,σ',h1,h2⟩:=EP hΓ ops.toList 0 σ [] (fun j=>by simp) h
   refine wp_region ?_
   have:=Xk (Q:=ME C K) h1 a w hs (fun a w hs'=>⟨σ',hs',h2⟩)
   rw [List.range_eq_range',←Array.length_toList];exact this
  ·split at h
   ·rename_i hmix
    obtain ⟨es,σ',h1,h2⟩:=EP hΓ ops.toList 0 σ [] (fun j=>by simp) h
    rw [List.nil_append] at h2;split at h2
    ·rename_i hord
     obtain ⟨prs,p1,p2,p3,p4⟩:=Xl h1;have hst:ES C ops σ prs es:=⟨p2,fun i o eff e hi he=>by have:=p4 i o eff e hi he;rwa [Nat.zero_add] at this⟩
     refine wp_region_any hmix ?_
     refine Xm hst p1 hord (fun a w hs'=>⟨σ',by rw [p3];exact hs',h2⟩) ops.size _ a _ (by simp) (fun S hS hk=>EX _ S hS fun k hk'=>(hk k hk').1) (fun j o _ hj=>?_) ?_
     ·exfalso
      by_cases hjs:j<ops.size <;> simp [Array.getD,hjs] at hj
     ·have:sub σ prs (fun k=>(Array.replicate ops.size false).getD k false) prs.length=σ:=by
       have hall:∀n,sub σ prs (fun k=>(Array.replicate ops.size false).getD k false) n=σ:=by
        intro n
        induction n with
        | zero=>rfl
        | succ n ih =>
         have hf:(Array.replicate ops.size false).getD n false=false:=by
          by_cases hn:n<ops.size <;> simp [Array.getD,hn]
         simp only [sub,ih,hf];split <;> rfl
       exact hall _
      rw [this];exact Xv hs
    ·exact h2.elim
   ·exact h.elim
 | seq x y ihx ihy =>
  intro cur ann σ K h a w hs
  simp only [fJ] at h;split at h
  ·obtain ⟨h1,h2⟩:=h
   refine wp_seq (wp_mono (ihx 0 ann σ _ h1 a w hs) ?_)
   rintro e a' w' ⟨σ',hs',hk⟩
   cases e with
   | normal =>
    obtain ⟨x0,p1,p2⟩:=hk;exact ihy 0 _ _ K (h2 x0 p1) a' w' (sp p2 hs')
   | _=>exact ⟨σ',hs',hk⟩
  ·refine wp_seq (wp_mono (ihx 0 ann σ _ h a w hs) ?_)
   rintro e a' w' ⟨σ',hs',hk⟩
   cases e with
   | normal=>exact ihy 0 ann σ' K hk a' w' hs'
   | _=>exact ⟨σ',hs',hk⟩
 | cond c x y ihx ihy =>
  intro cur ann σ K h a w hs
  simp only [fJ] at h;split at h
  ·rename_i t
   split at h
   ·rename_i b hb
    have hv:a.eval (.tmp t)=.bool b:=by
     obtain ⟨wG,mu,hg,q⟩:=hs;exact q.fr t _ hb
    refine wp_cond_split hv (fun hbt=>?_) (fun hbf=>?_)
    ·subst hbt;exact ihx 0 ann σ K h a w hs
    ·subst hbf;exact ihy 0 ann σ K h a w hs
   ·exact h.elim
  ·exact h.elim
 | block id c ih =>
  intro cur ann σ K h a w hs
  simp only [fJ] at h;refine wp_block (wp_mono (ih id ann σ _ h a w hs) ?_)
  rintro e a' w' ⟨σ',hs',hk⟩
  cases e with
  | exit id' =>
   simp only at hk;simp only [Exit.inBlock];split at hk
   ·rename_i hid
    rw [if_pos (Nat.eq_of_beq_eq_true hid)];exact ⟨σ',hs',hk⟩
   ·rename_i hid
    rw [if_neg (Nat.ne_of_beq_eq_false hid)];exact ⟨σ',hs',hk⟩
  | _=>exact ⟨σ',hs',hk⟩
 | loop c ih =>
  intro cur ann σ K h a w hs
  simp only [fJ] at h;split at h
  ·exact h.elim
  ·rename_i X inv pre m sub _
   obtain ⟨⟨x0,hx0,hsub⟩,hround⟩:=h;refine wp_loop_ghost (fun n a w=>∃x,pre x∧m x=n∧aN C (inv x) a w) (m x0) ⟨x0,hx0,rfl,sp hsub hs⟩ ?_
   rintro n a w ⟨x,hx,rfl,hst⟩
   refine wp_mono (ih 0 _ (inv x) _ (hround x hx) a w hst) ?_
   rintro e a' w' ⟨σ',hs',hk⟩
   cases e with
   | normal =>
    obtain ⟨x',h1,h2,h3⟩:=hk;exact ⟨m x',h2,x',h1,rfl,sp h3 hs'⟩
   | _=>exact ⟨σ',hs',hk⟩
  ·rename_i M X inv pre m sub _
   obtain ⟨hfst,hround⟩:=h;refine wp_loop_ghost (fun n a w=>(n=M∧aN C σ a w)∨∃x,pre x∧m x=n∧aN C (inv x) a w) M (.inl ⟨rfl,hs⟩) ?_
   rintro n a w (⟨rfl,hst⟩ | ⟨x,hx,rfl,hst⟩)
   ·refine wp_mono (ih 0 _ σ _ hfst a w hst) ?_
    rintro e a' w' ⟨σ',hs',hk⟩
    cases e with
    | normal =>
     obtain ⟨x',h1,h2,h3⟩:=hk;exact ⟨m x',h2,.inr ⟨x',h1,rfl,sp h3 hs'⟩⟩
    | _=>exact ⟨σ',hs',hk⟩
   ·refine wp_mono (ih 0 _ (inv x) _ (hround x hx) a w hst) ?_
    rintro e a' w' ⟨σ',hs',hk⟩
    cases e with
    | normal =>
     obtain ⟨x',h1,h2,h3⟩:=hk;exact ⟨m x',h2,.inr ⟨x',h1,rfl,sp h3 hs'⟩⟩
    | _=>exact ⟨σ',hs',hk⟩
 | _=>intro cur ann σ K h;exact h.elim
end
end Go.Sx
end
