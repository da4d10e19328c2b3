/- SxJ -/
import Derived.Test.YtkmldclpaniclaaGreatSxIf
import Derived.Lib.AppendZerosOnto
import Derived.ArgAppend
set_option linter.unusedSimpArgs false
set_option linter.unusedVariables false
set_option linter.defProp false
namespace Go.Sx
open Go.RowKit
section
variable {C:Cx} {σ:State} {mu:Nat->Img} {a:Act} {w w':World}
theorem Pi(ks:List Nat)(o:Nat):lk (ks.map fun k=>(k,(none:Option Ob))) o=if o∈ks then some none else none:=by
 induction ks with
 |nil=>simp[lk]
 |cons k ks ih =>
  rw[BP,bt,ih];by_cases h:k=o
  ·subst h;simp
  ·simp[h,AO h]
theorem St.move(h:St C σ mu a w){dst:Option Nat}(hd:∀d,dst=some d->d<C.N){d:Nat}(θ:σ.H d=none)(ks:List Nat)(hks:∀o∈ks,∃ob,σ.H o=some (some ob))
  {p:Option Prop}{ob:Ob}{m:Img}{v:Value}
  (hos:OsD w w')(htape:w'.tape=w.tape)(hout:w'.output=w.output)(hsize:w.heap.size<=w'.heap.size)
  (hkeep:∀b,b<w.heap.size->(∀o∈ks,b ∉ (mu o).blocks)->w'.heap[b]?=w.heap[b]?)
  (χ:aR (σ.env C.wF mu) w' m ob)(hnd:m.blocks.Nodup)(hb:∀b∈m.blocks,(∃o∈ks,b∈(mu o).blocks)\/w.heap.size<=b)
  (hv:v=m.hd)(hv1:v.oneCell'=true)(hf:ob.isFz=false:=by first|rfl|assumption) :
  ay C (σ.app dst ⟨.c (.own d),(d,some ob)::ks.map (fun o=>(o,none)),p⟩) (a.put dst v) w':=by
 have hlk:∀o,lk ((d,some ob)::ks.map (fun o=>(o,none))) o=if d=o then some (some ob)else if o∈ks then some none else none:=fun o=>by
  rw[bt,Pi]
 have hdk:∀o∈ks,d≠o:=fun o ho hc=>by
  obtain⟨ob',h1⟩:=hks o ho;rw[<-hc,θ]at h1;cases h1
 have htouch:∀o∈ks,∀b∈(mu o).blocks,jr σ mu ⟨.c (.own d),(d,some ob)::ks.map (fun o=>(o,none)),p⟩ b:=fun o ho b hb=>by
  obtain⟨ob',h1⟩:=hks o ho;exact⟨o,none,ob',by rw[hlk,AB (hdk o ho),AA ho],h1,hb⟩
 refine St.ex (mu:=fun o=>if o=d then m else mu o) (h.ups hd hos htape hout hsize (fun b hb' ht=>hkeep b hb' fun o ho hbo=>ht (htouch o ho b hbo)) (fun o ho=>?_) (fun o x ho=>?_) (fun o ob' ho=>?_) (fun o o' ob1 ob2 hne ho ho'=>?_) (fun _=>?_))
 ·have ho:(if d=o then some (some ob)else if o∈ks then some none else none)=none:=(hlk o).symm.trans ho
  split at ho
  ·cases ho
  ·rename_i hne;simp[AO hne]
 ·have ho:(if d=o then some (some ob)else if o∈ks then some none else none)=some x:=(hlk o).symm.trans ho
  split at ho
  ·rename_i hdo;subst hdo
   have:σ.ost d=.absent:=by simp[State.ost,θ]
   rw[this];trivial
  ·split at ho
   ·rename_i hdo ho2
    cases ho;obtain⟨ob',h1⟩:=hks o ho2;exact wW h1
   ·cases ho
 ·have hq:(if d=o then some (some ob)else if o∈ks then some none else none)=some (some ob'):=(hlk o).symm.trans ho
  clear ho;split at hq
  ·rename_i hdo;subst hdo;cases hq
   simp only[AV];exact⟨χ,hnd,fun b hb'=>(hb b hb').imp (fun⟨o,h1,h2⟩=>htouch o h1 b h2) id⟩
  ·split at hq<;>cases hq
 ·have ho:(if d=o then some (some ob)else if o∈ks then some none else none)=some (some ob1):=(hlk o).symm.trans ho
  have ho':(if d=o' then some (some ob)else if o'∈ks then some none else none)=some (some ob2):=(hlk o').symm.trans ho'
  split at ho
  ·split at ho'
   ·rename_i h1 h2;exact absurd (h1.symm.trans h2) hne
   ·split at ho'<;>cases ho'
  ·split at ho<;>cases ho
 ·refine⟨hv1,?_⟩
  have:(State.env (σ.app dst ⟨.c (.own d),(d,some ob)::ks.map (fun o=>(o,none)),p⟩) C.wF (fun o=>if o=d then m else mu o)).st d=.live ob.shp:=by
   simp only[State.env,State.ost,j8];rw[hlk d,AA rfl];exact mW hf
  rw[this];simp only[OSt.on,State.env,AV];exact hv
theorem St.split(h:St C σ mu a w){dst:Option Nat}(hd:∀d,dst=some d->d<C.N){d o:Nat}(θ:σ.H d=none){ob0 ob ob':Ob}(ho:σ.H o=some (some ob0))(hnf:ob0.isFz=false)
  {p:Option Prop}{m m':Img}{v:Value}(hle:dL (.live ob0.shp) (.live ob'.shp) (mu o) m')
  (χ:aR (σ.env C.wF mu) w m ob)(hrep':aR (σ.env C.wF mu) w m' ob')(hnd:m.blocks.Nodup)(hnd':m'.blocks.Nodup)(hb:∀b∈m.blocks,b∈(mu o).blocks)(hb':∀b∈m'.blocks,b∈(mu o).blocks)(dis:∀b∈m.blocks,b ∉ m'.blocks)
  (hv:v=m.hd)(hv1:v.oneCell'=true)(hf:ob.isFz=false)(hf':ob'.isFz=false) :
  ay C (σ.app dst ⟨.c (.own d),[(d,some ob),(o,some ob')],p⟩) (a.put dst v) w:=by
 have hne:d≠o:=fun hc=>by rw[hc,ho]at θ;cases θ
 have hlk:∀x,lk [(d,some ob),(o,some ob')] x=if d=x then some (some ob)else if o=x then some (some ob')else none:=fun x=>by
  rw[bt,bt];simp[lk]
 have htouch:∀b∈(mu o).blocks,jr σ mu ⟨.c (.own d),[(d,some ob),(o,some ob')],p⟩ b:=fun b hb=>⟨o,some ob',ob0,by rw[hlk,AB hne,AA rfl],ho,hb⟩
 refine St.ex (mu:=fun x=>if x=d then m else if x=o then m' else mu x) (h.ups hd (.refl _) rfl rfl (AE _) (fun _ _ _=>rfl) (fun x hx=>?_) (fun x y hx=>?_) (fun x ob1 hx=>?_) (fun x y ob1 ob2 hxy hx hy=>?_) (fun _=>?_))
 ·rw[show lk (Eff.mk (.c (.own d)) [(d,some ob),(o,some ob')] p).hp x=_ from hlk x]at hx
  split at hx
  ·cases hx
  ·rename_i h1
   split at hx
   ·cases hx
   ·rename_i h2;simp[AO h1,AO h2]
 ·rw[show lk (Eff.mk (.c (.own d)) [(d,some ob),(o,some ob')] p).hp x=_ from hlk x]at hx
  split at hx
  ·rename_i h1;subst h1;cases hx
   have:σ.ost d=.absent:=by simp[State.ost,θ]
   rw[this];trivial
  ·split at hx
   ·rename_i h1 h2;subst h2;cases hx
    rw[cr ho hnf];simp only[AO hne,Ag,AV]
    show dL _ (dX ob') _ _
    rw[mW hf'];exact hle
   ·cases hx
 ·rw[show lk (Eff.mk (.c (.own d)) [(d,some ob),(o,some ob')] p).hp x=_ from hlk x]at hx
  split at hx
  ·rename_i h1;subst h1;cases hx
   simp only[AV];exact⟨χ,hnd,fun b hb1=>.inl (htouch b (hb b hb1))⟩
  ·split at hx
   ·rename_i h1 h2;subst h2;cases hx
    simp only[AO hne,Ag,AV];exact⟨hrep',hnd',fun b hb1=>.inl (htouch b (hb' b hb1))⟩
   ·cases hx
 ·rw[show lk (Eff.mk (.c (.own d)) [(d,some ob),(o,some ob')] p).hp x=_ from hlk x]at hx
  rw[show lk (Eff.mk (.c (.own d)) [(d,some ob),(o,some ob')] p).hp y=_ from hlk y]at hy
  split at hx
  ·rename_i h1;subst h1
   split at hy
   ·rename_i h2;exact absurd h2 hxy
   ·split at hy
    ·rename_i h2 h3;subst h3
     simp only[AO hne,Ag,AV];exact dis
    ·cases hy
  ·split at hx
   ·rename_i h1 h2;subst h2
    split at hy
    ·rename_i h3;subst h3
     simp only[AO hne,Ag,AV];exact fun b hb1 hb2=>dis b hb2 hb1
    ·cases hy
   ·cases hx
 ·refine⟨hv1,?_⟩
  have:(State.env (σ.app dst ⟨.c (.own d),[(d,some ob),(o,some ob')],p⟩) C.wF (fun x=>if x=d then m else if x=o then m' else mu x)).st d=.live ob.shp:=by
   simp only[State.env,State.ost,j8];rw[hlk d,AA rfl];exact mW hf
  rw[this];simp only[OSt.on,State.env,AV];exact hv
theorem HP{sz:Nat}(h:St C σ mu a w){dst:Option Nat}(hd:∀d,dst=some d->d<C.N){d:Nat}(θ:σ.H d=none){e t ty:TypeId}(he:bX C.P t=some e)(hby:oZ C.P e sz)
  {cx:SC}{ks:List Nat}{v y:Value}{n m:Nat}{xs news:List Value}(hown:w.ownsRow 0 e sz v n xs)(hy:m8 w y sz m news)(h1:∀u∈news,u.oneCell'=true)(hroom:ar (n+m))
  (hks:(ks=[]/\ac v=none)\/∃o ob,ks=[o]/\σ.H o=some (some ob)/\ac v=ac (mu o).hd){p:Option Prop}{ob:Ob}
  (hob:∀w' v',w'.ownsRow 0 e sz v' (n+m) (xs++news)->aR (σ.env C.wF mu) w' ⟨v',[]⟩ ob)(_hcx:cx=cx)(hf:ob.isFz=false:=by first|rfl|assumption) :
  ∃v' w',(Builtin.append_ #[t,t] ty #[v,y]).run C.P w=.ok v' w'/\ay C (σ.app dst ⟨.c (.own d),(d,some ob)::ks.map (fun o=>(o,none)),p⟩) (a.put dst v') w':=by
 obtain⟨v',w',hr,hown',hg,hbl⟩:=HH (ty:=ty) he hby hown hy h1 hroom;refine⟨v',w',hr,h.move hd θ ks ?_ (m:=⟨v',[]⟩) hg.os hg.tape hg.output hg.size ?_ (hob w' v' hown') ?_ ?_ rfl (gq hown')⟩
 ·rcases hks with⟨rfl,_⟩|⟨o,ob',rfl,h2,_⟩
  ·simp
  ·intro o' ho';simp at ho';subst ho';exact⟨ob',h2⟩
 ·intro b ψ hk
  refine hg.block b ψ fun hc=>?_
  rw[m9 hown]at hc;rcases hks with⟨rfl,h2⟩|⟨o,ob',rfl,_,h2⟩
  ·rw[h2]at hc;cases hc
  ·exact hk o (by simp) (cD (by rw[<-h2];exact hc.symm))
 ·simp only[Img.blocks,Ax,Af]
  cases ac v'<;>simp
 ·intro b hb
  simp only[Img.blocks,Ax,Af,BK]at hb;rcases hbl b hb with h2|h2
  ·rcases hks with⟨rfl,h3⟩|⟨o,ob',rfl,_,h3⟩
   ·rw[h3]at h2;cases h2
   ·exact .inl ⟨o,by simp,cD (by rw[<-h3];exact h2)⟩
  ·exact .inr h2
theorem ni(h:St C σ mu a w){dst:Option Nat}(hd:∀d,dst=some d->d<C.N){d:Nat}(θ:σ.H d=none){e t ty:TypeId}(he:bX C.P t=some e)(hby:jn C.P e=true)
  {cx:SC}{ks:List Nat}{v y:Value}{n m:Nat}{xs news:List Value}(hown:w.ownsRow 0 e 1 v n xs)(hy:iW w y m news)(h1:∀u∈news,u.oneCell'=true)(hroom:ar (n+m))
  (hks:(ks=[]/\ac v=none)\/∃o ob,ks=[o]/\σ.H o=some (some ob)/\ac v=ac (mu o).hd){p:Option Prop}{ob:Ob}
  (hob:∀w' v',w'.ownsRow 0 e 1 v' (n+m) (xs++news)->aR (σ.env C.wF mu) w' ⟨v',[]⟩ ob)(hcx:cx=cx)(hf:ob.isFz=false:=by first|rfl|assumption) :
  ∃v' w',(Builtin.append_ #[t,t] ty #[v,y]).run C.P w=.ok v' w'/\ay C (σ.app dst ⟨.c (.own d),(d,some ob)::ks.map (fun o=>(o,none)),p⟩) (a.put dst v') w' :=
 HP h hd θ he (js hby) hown (HG hy) h1 hroom hks hob hcx hf
theorem Zm{d:Nat}{t tn ty:TypeId}{kn:IntKind}(htn:C.P.underlying tn=some (.int kn)){cx cy:SC}{vx vy:Value}{eff:Eff}(hr:(GV C.P d t cx cy).run σ=some eff)(hob:eff.obl)
  (hx:ai (σ.env C.wF mu) cx vx)(hy:ai (σ.env C.wF mu) cy vy)(h:St C σ mu a w){dst:Option Nat}(hd:∀d,dst=some d->d<C.N) :
  ∃v' w',(Builtin.append_ #[t,tn] ty #[vx,vy]).run C.P w=.ok v' w'/\ay C (σ.app dst eff) (a.put dst v') w':=by
 simp[GV,Rd.run]at hr
theorem kO{m:Img}(h:m.blocks.Nodup):(m.ins.filterMap ac).Nodup/\∀b,ac m.hd=some b->b ∉ m.ins.filterMap ac:=by
 unfold Img.blocks at h;rw[Ak]at h;exact⟨h.2.1,fun b hb hc=>h.2.2 b (by simp[hb]) b hc rfl⟩
theorem Pj{m:Img}(hnd:m.blocks.Nodup){i j b:Nat}{v u:Value}(hi:m.ins[i]?=some v)(hj:m.ins[j]?=some u)(hne:i≠j)(hv:ac v=some b):ac u≠some b:=by
 intro hu
 have h2:=(kO hnd).1
 have key:∀(l:List Value) (i j:Nat),(l.filterMap ac).Nodup->l[i]?=some v->l[j]?=some u->i<j->False:=by
  intro l
  induction l with
  |nil=>intro i j _ h;simp at h
  |cons x l ih =>
   intro i j hn h3 h4 ψ
   cases j with
   |zero=>omega
   |succ j =>
    simp at h4
    cases i with
    |zero =>
     simp at h3;subst h3
     rw[Az,hv]at hn;simp only[Aa]at hn;exact hn.1 (Ar.2 ⟨u,AI h4,hu⟩)
    |succ i =>
     simp at h3
     have hn':(l.filterMap ac).Nodup:=by
      rw[Az]at hn;split at hn
      ·exact hn
      ·simp only[Aa]at hn;exact hn.2
     exact ih i j hn' h3 h4 (by omega)
 rcases Nat.lt_or_ge i j with h3|h3
 ·exact key m.ins i j h2 hi hj h3
 ·have key':∀(l:List Value) (i j:Nat),(l.filterMap ac).Nodup->l[i]?=some u->l[j]?=some v->i<j->False:=by
   intro l
   induction l with
   |nil=>intro i j _ h;simp at h
   |cons x l ih =>
    intro i j hn h3 h4 ψ
    cases j with
    |zero=>omega
    |succ j =>
     simp at h4
     cases i with
     |zero =>
      simp at h3;subst h3
      rw[Az,hu]at hn;simp only[Aa]at hn;exact hn.1 (Ar.2 ⟨v,AI h4,hv⟩)
     |succ i =>
      simp at h3
      have hn':(l.filterMap ac).Nodup:=by
       rw[Az]at hn;split at hn
       ·exact hn
       ·simp only[Aa]at hn;exact hn.2
      exact ih i j hn' h3 h4 (by omega)
  exact key' m.ins j i h2 hj hi (by omega)
theorem xb{hd x:Value}{ins:List Value}{i:Nat}(hnd:(Img.mk hd ins).blocks.Nodup)(hx:∀b,ac x=some b->b ∉ (Img.mk hd ins).blocks) :
  (Img.mk hd (ins.set i x)).blocks.Nodup/\∀b∈(Img.mk hd (ins.set i x)).blocks,b∈(Img.mk hd ins).blocks\/ac x=some b:=by
 simp only[Img.blocks]at hnd hx⊢;have hmem:∀b∈(ins.set i x).filterMap ac,b∈ins.filterMap ac\/ac x=some b:=by
  intro b hb
  obtain⟨v,hv,hvb⟩:=Ar.1 hb;rcases C8 hv with h1|h1
  ·exact .inl (Ar.2 ⟨v,h1,hvb⟩)
  ·subst h1;exact .inr hvb
 have key:∀(l:List Value) (i:Nat),(l.filterMap ac).Nodup->(∀b,ac x=some b->b ∉ l.filterMap ac)->((l.set i x).filterMap ac).Nodup:=by
  intro l
  induction l with
  |nil=>intro i _ _;simp
  |cons y l ih =>
   intro i hn hxx
   have hn':(l.filterMap ac).Nodup:=by
    rw[Az]at hn;split at hn
    ·exact hn
    ·simp only[Aa]at hn;exact hn.2
   have hx':∀b,ac x=some b->b ∉ l.filterMap ac:=fun b hb hc=>hxx b hb (by
    rw[Az];split
    ·exact hc
    ·exact Ab _ hc)
   cases i with
   |zero =>
    rw[List.set_cons_zero,Az];split
    ·exact hn'
    ·rename_i b hb
     exact Aa.2 ⟨hx' b hb,hn'⟩
   |succ i =>
    rw[List.set_cons_succ,Az];split
    ·exact ih i hn' hx'
    ·rename_i b hb
     refine Aa.2 ⟨fun hc=>?_,ih i hn' hx'⟩
     obtain⟨v,hv,hvb⟩:=Ar.1 hc;rcases C8 hv with h1|h1
     ·rw[Az,hb]at hn
      exact(Aa.1 hn).1 (Ar.2 ⟨v,h1,hvb⟩)
     ·subst h1
      exact hxx b hvb (by rw[Az,hb];exact At ..)
 rw[Ak]at hnd;refine⟨?_,fun b hb=>?_⟩
 ·rw[Ak]
  refine⟨hnd.1,key ins i hnd.2.1 fun b hb hc=>hx b hb (AL.2 (.inr hc)),fun y hy z hz hyz=>?_⟩
  subst hyz;rcases hmem y hz with h1|h1
  ·exact hnd.2.2 y hy y h1 rfl
  ·exact hx y h1 (AL.2 (.inl hy))
 ·rcases AL.1 hb with h1|h1
  ·exact .inl (AL.2 (.inl h1))
  ·exact(hmem b h1).imp (fun h2=>AL.2 (.inr h2)) id
theorem Zn{E:Env}{m:Img}{ver:Nat}{e ei:TypeId}{k:IntKind}{l:Dc}(h:aR E w m (.rows ver e ei k l)):jN w m e ei k l [] :=
 ⟨h.2.1,⟨m.ins,h.1,fun _ _ hi _=>hi⟩,fun i v r hi hr=>⟨fun hc=>by simp at hc,fun _=>h.2.2 i v r hi hr⟩⟩
theorem St.take(h:St C σ mu a w){o id:Nat}{ob0:Ob}{ver:Nat}{e ei:TypeId}{k:IntKind}{l:Dc}{hs:List Nat}(ho:σ.H o=some (some ob0))(hsh:ob0.shp=⟨l.length,ver,l.map List.length⟩)
  (χ:jN w (mu o) e ei k l hs)(θ:σ.H id=none){i:Nat}{v:Value}(hi:(mu o).ins[i]?=some v)(hni:¬ i∈hs)(hnf:ob0.isFz=false:=by first|rfl|assumption) :
  jN w ⟨(mu o).hd,(mu o).ins.set i (.slice none 0 0)⟩ e ei k l (i::hs) /\
  St C ⟨σ.fr,jS id o (ver+1) e ei k l (i::hs) i++σ.hp⟩ (fun x=>if x=id then⟨v,[]⟩else if x=o then⟨(mu o).hd,(mu o).ins.set i (.slice none 0 0)⟩else mu x) a w:=by
 obtain⟨r1,⟨vs,r2,r3⟩,r4⟩:=χ;have ψ:i<l.length:=by rw[<-r1];exact(AJ.1 hi).1
 have hne:id≠o:=fun hc=>by rw[hc,ho]at θ;cases θ
 have hnd:=(h.nd o _ ho).1
 have hgd:l.getD i []=l[i]:=by simp[List.getD,ψ]
 have hrow:w.ownsRow 0 ei 1 v (l.getD i []).length ((l.getD i []).map (.int k)):=by
  rw[hgd];exact(r4 i v _ hi (AF ψ)).2 hni
 have new:jN w ⟨(mu o).hd,(mu o).ins.set i (.slice none 0 0)⟩ e ei k l (i::hs):=by
  refine⟨by rw[Ai];exact r1,⟨vs,r2,fun j u hj hn=>?_⟩,fun j u r hj hr=>?_⟩
  ·rw[AH,not_or]at hn
   have hj:((mu o).ins.set i (.slice none 0 0))[j]?=some u:=hj
   rw[BQ (AO hn.1)]at hj;exact r3 j u hj hn.2
  ·have hj:((mu o).ins.set i (.slice none 0 0))[j]?=some u:=hj
   by_cases hij:i=j
   ·subst hij
    rw[BY (by rw[r1];exact ψ)]at hj
    cases hj;exact⟨fun _=>rfl,fun hn=>absurd (At ..) hn⟩
   ·rw[BQ hij]at hj
    obtain⟨h5,h6⟩:=r4 j u r hj hr;exact⟨fun hm=>h5 ((AH.1 hm).resolve_left (AO hij)),fun hn=>h6 fun hc=>hn (Ab _ hc)⟩
 refine⟨new,?_⟩
 have hm0:(⟨(mu o).hd,(mu o).ins⟩:Img)=mu o:=rfl
 obtain⟨n1,n2⟩:=xb (i:=i) (x:=.slice none 0 0) (hd:=(mu o).hd) (ins:=(mu o).ins) hnd fun b' hb'=>by simp[ac]at hb'
 have n3:∀b∈(⟨(mu o).hd,(mu o).ins.set i (.slice none 0 0)⟩:Img).blocks,b∈(mu o).blocks:=fun b hb=>(n2 b hb).resolve_right (by simp[ac])
 have vb:∀b∈(⟨v,[]⟩:Img).blocks,ac v=some b:=fun b hb=>by simpa[Img.blocks]using hb
 have vin:∀b∈(⟨v,[]⟩:Img).blocks,b∈(mu o).blocks:=fun b hb=>oG hi (vb b hb)
 have dis:∀b∈(⟨v,[]⟩:Img).blocks,b ∉ (⟨(mu o).hd,(mu o).ins.set i (.slice none 0 0)⟩:Img).blocks:=fun b hb hc=>by
  have hv:=vb b hb
  simp only[Img.blocks,AL,Ar,BK]at hc;rcases hc with hc|⟨u,hu,hub⟩
  ·exact(kO hnd).2 b hc (Ar.2 ⟨v,AI hi,hv⟩)
  ·obtain⟨j,hj⟩:=Ah hu
   by_cases hij:i=j
   ·subst hij
    rw[BY (by rw[r1];exact ψ)]at hj
    cases hj;simp[ac]at hub
   ·rw[BQ hij]at hj
    exact Pj hnd hi hj hij hv hub
 have hH:∀x,State.H ⟨σ.fr,jS id o (ver+1) e ei k l (i::hs) i++σ.hp⟩ x=if id=x then some (some (.ints ei k (l.getD i [])))else if o=x then some (some (.rowsH (ver+1) e ei k l (i::hs)))else σ.H x:=fun x=>by
  show lk ((id,_)::(o,_)::σ.hp) x=_
  rw[bt,bt];rfl
 have hsep:∀o' ob',σ.H o'=some (some ob')->o≠o'->∀b∈(mu o').blocks,¬ b∈(mu o).blocks:=fun o' ob' ho' hn b hb hc=>h.sep o o' _ _ hn ho ho' b hc hb
 refine h.upd (fun b=>b∈(mu o).blocks) (.refl _) rfl rfl (AE _) (fun b hb=>⟨o,_,ho,hb⟩) (fun _ _ _=>rfl) (fun x=>?_) (fun x ob hx=>?_) h.sz rfl (fun t sv ht=>.inl ⟨ht,rfl⟩)
 ·show dL (σ.ost x) (match State.H ⟨σ.fr,jS id o (ver+1) e ei k l (i::hs) i++σ.hp⟩ x with|none=>.absent|some none=>.dead|some (some ob)=>dX ob) _ _
  rw[hH];by_cases h1:id=x
  ·subst h1
   have:σ.ost id=.absent:=by simp[State.ost,θ]
   rw[this];trivial
  ·rw[AB h1]
   by_cases h2:o=x
   ·subst h2
    rw[AA rfl,cr ho];simp only[AB (AO h1),AV]
    show dL (.live ob0.shp) (.live _) _ _
    rw[hsh];exact⟨rfl,rfl,BC _,fun hc=>by simp[Ob.shp]at hc⟩
   ·rw[AB h2]
    simp only[AB (AO h1),AB (AO h2)];exact dL.refl _ _
 ·have hx:State.H ⟨σ.fr,jS id o (ver+1) e ei k l (i::hs) i++σ.hp⟩ x=some (some ob):=hx
  have other:∀o' ob',id≠o'->o≠o'->State.H ⟨σ.fr,jS id o (ver+1) e ei k l (i::hs) i++σ.hp⟩ o'=some (some ob')->σ.H o'=some (some ob')/\(if o'=id then(⟨v,[]⟩:Img)else if o'=o then⟨(mu o).hd,(mu o).ins.set i (.slice none 0 0)⟩else mu o')=mu o'/\∀b∈(mu o').blocks,¬ b∈(mu o).blocks:=fun o' ob' h1 h2 h3=>by
   rw[hH,AB h1,AB h2]at h3;exact⟨h3,by rw[AB (AO h1),AB (AO h2)],hsep o' ob' h3 h2⟩
  by_cases h1:id=x
  ·subst h1
   rw[hH,AA rfl]at hx;cases hx;rw[AA rfl];refine .inr ⟨⟨rfl,hrow⟩,?_,fun b hb=>.inl (vin b hb),fun o' ob' hn ho'=>?_⟩
   ·simp only[Img.blocks,Ax,Af]
    cases ac v<;>simp
   ·by_cases h2:o=o'
    ·subst h2
     rw[AB (AO hne),AA rfl];exact .inr dis
    ·exact .inl (other o' ob' hn h2 ho')
  ·by_cases h2:o=x
   ·subst h2
    rw[hH,AB h1,AA rfl]at hx;cases hx;rw[AB (AO h1),AA rfl];refine .inr ⟨new,n1,fun b hb=>.inl (n3 b hb),fun o' ob' hn ho'=>?_⟩
    by_cases h3:id=o'
    ·subst h3
     rw[AA rfl];exact .inr fun b hb hc=>dis b hc hb
    ·exact .inl (other o' ob' h3 hn ho')
   ·exact .inl (other x ob h1 h2 hx)
theorem Pk(h:St C σ mu a w){dst:Option Nat}(hd:∀d,dst=some d->d<C.N){d:Nat}(θ:σ.H d=none){e ei t ty:TypeId}{k:IntKind}(he:bX C.P t=some e)(hby:jn C.P e=true)
  {o2 ver2:Nat}{ys:Dc}(ho2:σ.H o2=some (some (.rows ver2 e ei k ys))){ks:List Nat}{v:Value}{l:Dc}{ins:List Value}
  (hown:w.ownsRow 0 e 1 v l.length ins)(hil:ins.length=l.length)(hin:∀(i:Nat) (u:Value) (r:Db),ins[i]?=some u->l[i]?=some r->w.ownsRow 0 ei 1 u r.length (r.map (.int k)))
  (hroom:ar (l.length+ys.length))
  (hks:(ks=[]/\v=.slice none 0 0/\ins=[])\/∃o ob,ks=[o]/\o≠o2/\σ.H o=some (some ob)/\v=(mu o).hd/\ins=(mu o).ins){p:Option Prop} :
  ∃v' w',(Builtin.append_ #[t,t] ty #[v,(mu o2).hd]).run C.P w=.ok v' w' /\
   ay C (σ.app dst ⟨.c (.own d),(d,some (.rows 0 e ei k (l++ys)))::(ks++[o2]).map (fun o=>(o,none)),p⟩) (a.put dst v') w':=by
 obtain⟨q1,q2,q3⟩:=h.ob o2 _ ho2;have hy:iW w (mu o2).hd ys.length (mu o2).ins:=by
  have:=lU q1 (cL q1) (by omega)
  rwa[Bp,AU (by rw[q2];exact AE _)]at this
 have hone:∀u∈(mu o2).ins,u.oneCell'=true:=fun u hu=>by
  obtain⟨i,hi⟩:=Ah hu;have ψ:i<ys.length:=by rw[<-q2];exact(AJ.1 hi).1
  exact gq (q3 i u _ hi (AF ψ))
 obtain⟨v',w',hr,hown',hg,hbl⟩:=HI (ty:=ty) he hby hown hy hone hroom;have hi1:∀(i:Nat) (u:Value),ins[i]?=some u->∀b,ac u=some b->b<w.heap.size/\some b≠v.ownBlock:=fun i u hi b hb=>by
  have ψ:i<l.length:=by rw[<-hil];exact(AJ.1 hi).1
  refine⟨(hZ (hin i u _ hi (AF ψ)) b hb).2,fun hc=>?_⟩
  rw[m9 hown]at hc;rcases hks with⟨_,_,h3⟩|⟨o,ob,_,_,h4,h5,h6⟩
  ·subst h3;simp at hi
  ·rw[h5]at hc
   exact(kO (h.nd o ob h4).1).2 b hc.symm (Ar.2 ⟨u,AI (by rw[<-h6];exact hi),hb⟩)
 have hi2:∀(i:Nat) (u:Value),(mu o2).ins[i]?=some u->∀b,ac u=some b->b<w.heap.size/\some b≠v.ownBlock:=fun i u hi b hb=>by
  have ψ:i<ys.length:=by rw[<-q2];exact(AJ.1 hi).1
  refine⟨(hZ (q3 i u _ hi (AF ψ)) b hb).2,fun hc=>?_⟩
  rw[m9 hown]at hc;rcases hks with⟨_,h3,_⟩|⟨o,ob,_,hne,h4,h5,h6⟩
  ·subst h3;simp[ac]at hc
  ·rw[h5]at hc
   exact h.sep o o2 ob _ hne h4 ho2 b (cD hc.symm) (oG hi hb)
 refine⟨v',w',hr,h.move hd θ (ks++[o2]) ?_ (m:=⟨v',ins++(mu o2).ins⟩) hg.os hg.tape hg.output hg.size ?_ ⟨by simpa using hown',by simp[hil,q2],?_⟩ ?_ ?_ rfl (gq hown')⟩
 ·intro o' ho'
  rcases hks with⟨rfl,_⟩|⟨o,ob,rfl,_,h4,_⟩
  ·simp at ho';subst ho';exact⟨_,ho2⟩
  ·simp at ho'
   rcases ho' with rfl|rfl
   ·exact⟨_,h4⟩
   ·exact⟨_,ho2⟩
 ·intro b ψ hk
  refine hg.block b ψ fun hc=>?_
  rw[m9 hown]at hc;rcases hks with⟨rfl,h3,_⟩|⟨o,ob',rfl,_,_,h5,_⟩
  ·subst h3;simp[ac]at hc
  ·exact hk o (by simp) (cD (by rw[<-h5];exact hc.symm))
 ·intro i u r hi hri
  by_cases ψ:i<l.length
  ·rw[Am (by omega)]at hi
   rw[Am ψ]at hri;exact dY (hin i u r hi hri) fun b hb=>hg.block b (hi1 i u hi b hb).1 (hi1 i u hi b hb).2
  ·rw[Aq (by omega)]at hi
   rw[Aq (by omega)]at hri
   rw[hil]at hi;exact dY (q3 _ u r hi hri) fun b hb=>hg.block b (hi2 _ u hi b hb).1 (hi2 _ u hi b hb).2
 ·-- nodup
  have n2:=kO (h.nd o2 _ ho2).1
  have hout:∀b,ac v'=some b->b ∉ ins.filterMap ac/\b ∉ (mu o2).ins.filterMap ac:=fun b hb=>by
   constructor
   ·intro hc
    obtain⟨u,hu,hub⟩:=Ar.1 hc;obtain⟨i,hi⟩:=Ah hu;have h8:=hi1 i u hi b hub
    rcases hbl b hb with h9|h9
    ·exact h8.2 (by rw[m9 hown];exact h9.symm)
    ·omega
   ·intro hc
    obtain⟨u,hu,hub⟩:=Ar.1 hc;obtain⟨i,hi⟩:=Ah hu;have h8:=hi2 i u hi b hub
    rcases hbl b hb with h9|h9
    ·exact h8.2 (by rw[m9 hown];exact h9.symm)
    ·omega
  have hins:(ins.filterMap ac).Nodup/\∀b∈ins.filterMap ac,b ∉ (mu o2).ins.filterMap ac:=by
   rcases hks with⟨_,_,h3⟩|⟨o,ob,_,hne,h4,h5,h6⟩
   ·subst h3;simp
   ·subst h6
    refine⟨(kO (h.nd o ob h4).1).1,fun b hb hc=>?_⟩
    exact h.sep o o2 ob _ hne h4 ho2 b (by simp only[Img.blocks,AL];exact .inr hb) (by simp only[Img.blocks,AL];exact .inr hc)
  simp only[Img.blocks,C9];rw[Ak];refine⟨by cases ac v'<;>simp,?_,?_⟩
  ·rw[Ak]
   exact⟨hins.1,n2.1,fun x hx y hy hxy=>hins.2 x hx (hxy ▸ hy)⟩
  ·intro x hx y hy hxy
   subst hxy;simp at hx
   rcases AL.1 hy with h8|h8
   ·exact(hout x hx).1 h8
   ·exact(hout x hx).2 h8
 ·intro b hb
  simp only[Img.blocks,C9,AL,BK]at hb;rcases hb with hb|hb|hb
  ·rcases hbl b hb with h2|h2
   ·rcases hks with⟨rfl,h3,_⟩|⟨o,ob',rfl,_,_,h5,_⟩
    ·subst h3;simp[ac]at h2
    ·exact .inl ⟨o,by simp,cD (by rw[<-h5];exact h2)⟩
   ·exact .inr h2
  ·rcases hks with⟨_,_,h3⟩|⟨o,ob',rfl,_,_,_,h6⟩
   ·subst h3;simp at hb
   ·exact .inl ⟨o,by simp,by simp only[Img.blocks,AL];exact .inr (h6 ▸ hb)⟩
  ·exact .inl ⟨o2,by simp,by simp only[Img.blocks,AL];exact .inr hb⟩
theorem HQ{l l':Df}(i:Nat):dP (l++l') i=if i<l.length*2 then dP l i else dP l' (i-l.length*2):=by
 split
 ·rename_i h
  have:i / 2<l.length:=by omega
  simp[dP,List.getD,Am this]
 ·rename_i h
  have h1:l.length<=i / 2:=by omega
  have h2:(i-l.length*2) / 2=i / 2-l.length:=by omega
  have h3:(i-l.length*2) % 2=i % 2:=by omega
  simp[dP,List.getD,Aq h1,h2,h3]
theorem Zo{a b c:FC}(h:jQ a b=some c):c.len=a.len+b.len/\(∀i fc,a.elem i=some fc->c.elem i=some fc)/\(∀i fc,b.elem i=some fc->c.elem (a.cn+i)=some fc)/\a.wid=b.wid/\c.wid=b.wid:=by
 cases a<;>cases b<;>simp only[jQ,reduceCtorEq]at h
 case p3.p3 k l k' l' =>
  split at h
  ·rename_i hk
   subst hk;cases h;refine⟨by simp[FC.len],fun i fc hi=>?_,fun i fc hi=>?_,rfl,rfl⟩
   ·simp only[FC.elem]at hi⊢
    split at hi
    ·rename_i ψ
     rw[AA (by simp;omega),HQ,AA ψ];exact hi
    ·cases hi
   ·simp only[FC.elem]at hi
    split at hi
    ·rename_i ψ
     have e0:(FC.p3 k l).cn=l.length*2:=rfl
     rw[e0]
     show(if l.length*2+i<(l++l').length*2 then some _ else none)=_
     rw[AA (by rw[Al,CQ];omega),HQ,AB (by omega),show l.length*2+i-l.length*2=i by omega];exact hi
    ·cases hi
  ·cases h
 all_goals
  split at h
  ·rename_i hk
   subst hk;cases h;refine⟨by simp[FC.len],fun i fc hi=>?_,fun i fc hi=>?_,rfl,rfl⟩
   ·simp only[FC.elem]at hi⊢
    split at hi
    ·rename_i ψ
     rw[AA (by simp;omega)]
     rw[<-hi];simp[List.getD,Am ψ]
    ·cases hi
   ·change (if i<List.length _ then some _ else none)=some fc at hi
    simp only[FC.cn,FC.wid,As]
    change (if List.length _+i<List.length (_++_)then some _ else none)=some fc
    split at hi
    ·rename_i ψ
     rw[<-hi,AA (by simp;omega)]
     simp[List.getD,Aq,FC.len]
    ·cases hi
  ·cases h
theorem Pl{d d':FC}{off n:Nat}(h:cz off n d=some d')(hle:off+n<=d.len):d'.len=n/\d'.wid=d.wid/\(d.wid≠1->off=0)/\∀i fc,i<n*d.wid->d.elem (off+i)=some fc->d'.elem i=some fc:=by
 cases d
 case p3 k l =>
  cases off with
  |succ off=>cases h
  |zero =>
   cases h;have hle:0+n<=l.length:=hle
   refine⟨by simp[FC.len];omega,rfl,fun _=>rfl,fun i fc hi h=>?_⟩
   have hi:i<n*2:=hi
   simp only[FC.elem,AK]at h⊢;split at h
   ·rw[AA (by rw[AS];omega),wl hi];exact h
   ·cases h
 all_goals simp only[cz,reduceCtorEq,AC]at h
 all_goals subst h
 all_goals simp only[FC.len]at hle⊢
 all_goals
  refine⟨by simp;omega,rfl,fun hn=>absurd rfl hn,fun i fc hi h=>?_⟩
  simp only[FC.wid,As]at hi;simp only[FC.elem]at h⊢;split at h
  ·rw[AA (by simp;omega),<-h,iN _ _ _ _ _ hi]
  ·cases h
def kP(wF w:World)(y:Value)(d:FC):Prop:=∃news,m8 w y d.wid d.len news/\∀(i:Nat) (u:Value),news[i]?=some u->u.oneCell'=true/\∃fc,d.elem i=some fc/\bp wF u fc
theorem HR{w:World}{u:Value}{d:FC}(h:bp w u d):u.oneCell'=true:=by
 cases d with
 |int k n=>rw[show u=_ from h];rfl
 |bool b=>rw[show u=_ from h];rfl
 |str l=>rw[show u=_ from h];rfl
 |_=>obtain⟨a,c,hv,_⟩:=h;rw[hv];rfl
theorem Zp{wF:World}(hc:bJ wF w){y:Value}{k:IntKind}{l:Df}(h:bp wF y (.p3 k l)):kP wF w y (.p3 k l):=by
 obtain⟨x,c,rfl,_,hk⟩:=h;by_cases h0:0<l.length
 ·obtain⟨b,off,rfl,hk2⟩:=hk h0
  refine⟨(List.range (l.length*2)).map fun j=>(wF.cell? ⟨b,off+j,none⟩).getD undef,⟨_,c,rfl,by simp[FC.len,FC.wid],fun _=>⟨_,rfl,fun j u hu=>?_⟩⟩,fun i u hu=>?_⟩
  ·have hj:j<l.length*2:=by have:=(AJ.1 hu).1;simpa using this
   obtain⟨u',h1,_⟩:=hk2 j hj;have:u=u':=by simp[hj,h1]at hu;exact hu.symm
   rw[Addr.add_lit,this];exact hc _ _ h1
  ·have hj:i<l.length*2:=by have:=(AJ.1 hu).1;simpa using this
   obtain⟨u',h1,h2⟩:=hk2 i hj;have:u=u':=by simp[hj,h1]at hu;exact hu.symm
   subst this;exact⟨HR (d:=.rows k (dP l i)) h2,_,AA hj,h2⟩
 ·have e0:l=[]:=BJ (by omega)
  subst e0;refine⟨[],⟨x,c,rfl,rfl,fun h1=>absurd h1 h0⟩,fun i u hu=>by simp at hu⟩
theorem qV{wF:World}(hc:bJ wF w){y:Value}{d:FC}{R:Nat->Value->Prop}(hw:d.wid=1)(h:bE wF y d.len R)(hR:∀i u,i<d.len->R i u->∃fc,d.elem i=some fc/\bp wF u fc):kP wF w y d:=by
 unfold kP;rw[hw];obtain⟨x,c,rfl,_,hk⟩:=h;by_cases h0:0<d.len
 ·obtain⟨b,off,rfl,hk2⟩:=hk h0
  refine⟨(List.range d.len).map fun j=>(wF.cell? ⟨b,off+j,none⟩).getD undef,⟨_,c,rfl,by simp,fun _=>⟨_,rfl,fun j u hu=>?_⟩⟩,fun i u hu=>?_⟩
  ·have hj:j<d.len:=by have:=(AJ.1 hu).1;simpa using this
   obtain⟨u',h1,_⟩:=hk2 j hj;have:u=u':=by simp[hj,h1]at hu;exact hu.symm
   rw[Addr.add_lit,this];exact hc _ _ h1
  ·have hj:i<d.len:=by have:=(AJ.1 hu).1;simpa using this
   obtain⟨u',h1,h2⟩:=hk2 i hj;have:u=u':=by simp[hj,h1]at hu;exact hu.symm
   subst this;obtain⟨fc,h3,h4⟩:=hR i u hj h2;exact⟨HR h4,fc,h3,h4⟩
 ·refine⟨[],⟨x,c,rfl,by simp;omega,fun h1=>absurd h1 h0⟩,fun i u hu=>by simp at hu⟩
theorem Pm{wF:World}(hc:bJ wF w){y:Value}{d:FC}(h:bp wF y d)(hs:dt d=false):kP wF w y d:=by
 cases d with
 |int k n=>cases hs
 |bool b=>cases hs
 |str l=>cases hs
 |p3 k l=>exact Zp hc h
 |ints k l=>exact qV hc rfl h fun i u hi hu=>⟨.int k (l.getD i 0),AA hi,hu⟩
 |bools l=>exact qV hc rfl h fun i u hi hu=>⟨.bool (l.getD i false),AA hi,hu⟩
 |rows k l=>exact qV hc rfl h fun i u hi hu=>⟨.ints k (l.getD i []),AA hi,hu⟩
 |r3 k l=>exact qV hc rfl h fun i u hi hu=>⟨.rows k (l.getD i []),AA hi,hu⟩
 |r4 k l=>exact qV hc rfl h fun i u hi hu=>⟨.r3 k (l.getD i []),AA hi,hu⟩
theorem Zq{e:TypeId}{hd v:Value}{d d':FC}{vs:List Value}{off n:Nat}{wF:World}(h:w.ownsRow 0 e d.wid hd d.len vs)(hel:∀(i:Nat) (u:Value),vs[i]?=some u->u.oneCell'=true/\∃fc,d.elem i=some fc/\bp wF u fc)
  (hv:cA hd off n v)(hle:off+n<=d.len)(ht:cz off n d=some d'):kP wF w v d':=by
 obtain⟨t1,t1w,t0,t2⟩:=Pl ht hle;have hc:m8 w v d.wid n ((vs.drop off).take (n*d.wid)):=by
  by_cases e1:d.wid=1
  ·rw[e1]at h⊢
   rw[As];exact HG (lU h hv hle)
  ·have:=t0 e1
   subst this;rw[Bp];exact Pa h hv (by omega)
 refine⟨(vs.drop off).take (n*d.wid),by rw[t1,t1w];exact hc,fun i u hi=>?_⟩
 have hin:i<n*d.wid:=by
  have:=(AJ.1 hi).1
  rw[AS]at this;omega
 rw[Au,AA hin,A9]at hi;obtain⟨h1,fc,h2,h3⟩:=hel _ _ hi;exact⟨h1,fc,t2 i fc hin h2,h3⟩
theorem Zr{l:List (Nat×Option Ob)}{o:Nat}(h:∀x,(o,x) ∉ l):lk l o=none:=by
 induction l with
 |nil=>rfl
 |cons z l ih =>
  obtain⟨k,v⟩:=z;rw[bt];split
  ·rename_i hk;subst hk;exact absurd (At ..) (h v)
  ·exact ih fun x hx=>h x (Ab _ hx)
theorem qW:∀{l:List (Nat×Option Ob)} {o:Nat} {x:Option Ob},lk l o=some x->(o,x)∈l
 | [],o,x,h=>by simp[lk]at h
 |(k,v)::l,o,x,h=>by
  rw[bt]at h;split at h
  ·rename_i hk;subst hk;cases h;exact At ..
  ·exact Ab _ (qW h)
theorem xc{o:Nat}:∀{l:List (Nat×Option Ob)},oL o l=true->∀x,(o,x) ∉ l
 | [],_,x=>by simp
 |(k,v)::l,h,x=>by
  simp only[oL,AG,Ca]at h;intro hm
  rcases AH.1 hm with hm|hm
  ·cases hm
   have:=Bn h.1
   exact this rfl
  ·exact xc h.2 x hm
def gu(σ:State)(fs:List (Nat×Option Ob)):Prop:=∀o x,(o,x)∈fs->∃ob d,σ.H o=some (some ob)/\gk ob=some d/\x=some (.frz d)
theorem Zs{c:SC}{K:FC->List (Nat×Option Ob)->Rd Eff}{r:Eff}(hr:(GT c K).run σ=some r){v:Value}(hv:ai (σ.env C.wF mu) c v)(h:St C σ mu a w) :
  ∃d fs,(K d fs).run σ=some r/\gu σ fs/\(dt d=false->∀wG mu',GrowF C wG->St (C.fz wG) ⟨σ.fr,fs++σ.hp⟩ mu' a w->b7 (σ.env C.wF mu) ((State.mk σ.fr (fs++σ.hp)).env wG mu')->kP wG w v d):=by
 have nofs:gu σ []:=fun o x hm=>by simp at hm
 have lst:∀{o ver e d off n d'} ,σ.H o=some (some (.lst ver e d))->cz off n d=some d'->cA (mu o).hd off n v->off+n<=d.len->∀wG mu',GrowF C wG->St (C.fz wG) ⟨σ.fr,[]++σ.hp⟩ mu' a w->b7 (σ.env C.wF mu) ((State.mk σ.fr ([]++σ.hp)).env wG mu')->kP wG w v d' :=
  fun {o ver e d off n d'} ho ht hv hle wG mu' hg hst _=>by
   obtain⟨_,vs,q2,q3⟩:=h.ob o _ ho;exact Zq q2 (fun i u hi=>let⟨h1,fc,h2,h3⟩:=q3 i u hi;⟨h1,fc,h2,h3.mono hg.kept⟩) hv hle ht
 unfold GT at hr;split at hr
 ·rename_i d
  exact⟨d,[],hr,nofs,fun hs wG mu' hg hst _=>Pm (fun p u hp=>(hst.cells p u hp).2) (hv.2.mono hg.kept) hs⟩
 ·rename_i o
  obtain⟨ob,ho,hr⟩:=aZ hr;cases ob with
  |lst ver e d =>
   refine⟨d,[],hr,nofs,fun hs=>?_⟩
   have hv':v=(mu o).hd:=aP ho hv
   subst hv';obtain⟨_,vs,q2,q3⟩:=h.ob o _ ho;have ht:cz 0 d.len d=some d:=by cases d<;>first|(cases hs;done)|simp[cz,FC.len]
   exact lst ho ht (cL q2) (by omega)
  |rows ver e ei k l =>
   refine⟨_,_,hr,fun o' x hm=>?_,fun hs wG mu' hg hst hE=>?_⟩
   ·simp at hm
    obtain⟨rfl,rfl⟩:=hm;exact⟨_,.rows k l,ho,by simp[gk,fA,cz],rfl⟩
   ·have e:(State.mk σ.fr ([(o,some (.frz (.rows k l)))]++σ.hp)).ost o=.frz (.rows k l):=fD (by simp[State.H,bt])
    have hv':v=(mu o).hd:=aP ho hv
    have h3:=(ai.mono hE hv).2
    have e2:((State.mk σ.fr ([(o,some (.frz (.rows k l)))]++σ.hp)).env wG mu').st o=.frz (.rows k l):=e
    rw[e2]at h3;exact Pm (fun p u hp=>(hst.cells p u hp).2) h3.2 rfl
  |_=>simp[Rd.run]at hr
 ·rename_i o n
  obtain⟨ob,ho,hr⟩:=aZ hr;cases ob with
  |lst ver e d =>
   simp only at hr;split at hr
   ·rename_i d' ht
    obtain⟨h1,h2⟩:=aP ho hv;exact⟨d',[],hr,nofs,fun _=>lst ho ht h2 (by have:n<=d.slen:=h1;have:=qU d;omega)⟩
   ·simp[Rd.run]at hr
  |_=>simp[Rd.run]at hr
 ·rename_i o off n
  obtain⟨ob,ho,hr⟩:=aZ hr;cases ob with
  |lst ver e d =>
   simp only at hr;split at hr
   ·rename_i d' ht
    obtain⟨h1,h2⟩:=aP ho hv;exact⟨d',[],hr,nofs,fun _=>lst ho ht h2 (by have:off+n<=d.slen:=h1;have:=qU d;omega)⟩
   ·simp[Rd.run]at hr
  |_=>simp[Rd.run]at hr
 ·simp[Rd.run]at hr
theorem HS{a b c:FC}(h:jQ a b=some c):dt b=false:=by
 cases a<;>cases b<;>first|rfl|cases h
theorem gv{fs:List (Nat×Option Ob)}{o:Nat}(h:∀x,(o,x) ∉ fs):(State.mk σ.fr (fs++σ.hp)).H o=σ.H o:=by
 simp only[State.H,gt,Zr h]
theorem nj{fs:List (Nat×Option Ob)}(h:gu σ fs){d:Nat}(hd:σ.H d=none):∀x,(d,x) ∉ fs:=fun x hm=>by
 obtain⟨ob,_,h1,_⟩:=h d x hm;rw[hd]at h1;cases h1
theorem HT(h:St C σ mu a w){dst:Option Nat}(hd:∀d,dst=some d->d<C.N){d:Nat}(θ:σ.H d=none){e t ty:TypeId}(he:bX C.P t=some e){wd:Nat}(hby:oZ C.P e wd)
  {ks:List Nat}{v y:Value}{dx dy dd:FC}(hwd:dy.wid=wd){xs:List Value}(hown:w.ownsRow 0 e dx.wid v dx.len xs)(hxs:∀(i:Nat) (u:Value),xs[i]?=some u->u.oneCell'=true/\∃fc,dx.elem i=some fc/\bp C.wF u fc)(hy:kP C.wF w y dy)
  (hc:jQ dx dy=some dd)(hroom:ar (dx.len+dy.len))(hks:(ks=[]/\ac v=none)\/∃o ob,ks=[o]/\σ.H o=some (some ob)/\ac v=ac (mu o).hd){p:Option Prop} :
  ∃v' w',(Builtin.append_ #[t,t] ty #[v,y]).run C.P w=.ok v' w'/\ay C (σ.app dst ⟨.c (.own d),(d,some (.lst 0 e dd))::ks.map (fun o=>(o,none)),p⟩) (a.put dst v') w':=by
 obtain⟨news,h1,h2⟩:=hy;obtain⟨c1,c2,c3,c4,c5⟩:=Zo hc;subst hwd;rw[c4]at hown;refine HP h hd θ he hby (cx:=.nil) hown h1 (fun u hu=>?_) hroom hks (fun w' v' ho=>⟨rfl,xs++news,by rw[c1,c5];exact ho,fun i u hi=>?_⟩) rfl
 ·obtain⟨i,hi⟩:=Ah hu
  exact(h2 i u hi).1
 ·have hl:xs.length=dx.cn:=by rw[FC.cn,c4];exact hown.1
  by_cases ψ:i<xs.length
  ·rw[Am ψ]at hi
   obtain⟨h3,fc,h4,h5⟩:=hxs i u hi;exact⟨h3,fc,c2 i fc h4,h5⟩
  ·rw[Aq (by omega)]at hi
   obtain⟨h3,fc,h4,h5⟩:=h2 _ u hi;refine⟨h3,fc,?_,h5⟩
   have:=c3 _ fc h4
   rwa[show dx.cn+(i-xs.length)=i by omega]at this
theorem o6{wd d:Nat}{t ty e:TypeId}{cx cy:SC}{vx vy:Value}{eff:Eff}(hr:(lM wd d e cx cy).run σ=some eff)(hob:eff.obl)(he:bX C.P t=some e)(hby:oZ C.P e wd)
  (hx:ai (σ.env C.wF mu) cx vx)(hy:ai (σ.env C.wF mu) cy vy)(h:St C σ mu a w){dst:Option Nat}(hd:∀d,dst=some d->d<C.N) :
  ∃v w',(Builtin.append_ #[t,t] ty #[vx,vy]).run C.P w=.ok v w'/\ay C (σ.app dst eff) (a.put dst v) w':=by
 unfold lM at hr;obtain⟨dy,fy,hr,hf,hels⟩:=Zs hr hy h;obtain⟨wG,mu1,g1,s1,k1,e1⟩:=h.fzs fy hf;cases cx with
 |nil =>
  simp only at hr;split at hr
  ·rename_i hsc
   obtain⟨hsc,hwd⟩:=hsc;rw[<-hwd]at hby;obtain⟨θ,hr⟩:=b8 hr;simp only[Rd.run,AC]at hr;subst hr;simp only[ai]at hx;subst hx;have hab1:=nj hf θ
   obtain⟨news,h1,h2⟩:=hels hsc wG mu1 g1 s1 e1;obtain⟨v',w',q1,q2⟩:=HP s1 hd (d:=d) (by rw[gv hab1];exact θ) he hby (cx:=.nil) (ty:=ty) (ks:=[]) (n:=0) (World.ownsRow_nil _ _ _ _) h1 (fun u hu=>by
    obtain⟨i,hi⟩:=Ah hu;exact(h2 i u hi).1) (by simpa[Eff.obl]using hob) (.inl ⟨rfl,rfl⟩) (ob:=.lst 0 e dy) (p:=some (ar dy.len)) (fun w' v' ho=>⟨rfl,news,by simpa using ho,fun i u hi=>h2 i u hi⟩) rfl
   exact⟨v',w',q1,ay.up g1 q2⟩
  ·simp[Rd.run]at hr
 |own o =>
  obtain⟨ob,ho,hr⟩:=aZ hr;cases ob with
  |lst ver e0 dx =>
   simp only at hr;split at hr
   ·rename_i dd hc
    split at hr
    ·rename_i φ
     obtain⟨rfl,hfy,hwd⟩:=φ;obtain⟨θ,hr⟩:=b8 hr;simp only[Rd.run,AC]at hr;subst hr;have hv:vx=(mu o).hd:=aP ho hx
     subst hv;have hab1:=nj hf θ
     have hoo:=xc hfy
     have ho1:(State.mk σ.fr (fy++σ.hp)).H o=some (some (.lst ver e0 dx)):=by rw[gv hoo];exact ho
     have hm:mu1 o=mu o:=k1 o hoo
     obtain⟨_,vs,h2,h3⟩:=s1.ob o _ ho1;rw[hm]at h2;obtain⟨v',w',q1,q2⟩:=HT s1 hd (d:=d) (by rw[gv hab1];exact θ) he hby hwd (ty:=ty) (ks:=[o]) h2 h3 (hels (HS hc) wG mu1 g1 s1 e1) hc hob (.inr ⟨o,_,rfl,ho1,by rw[hm]⟩) (p:=some (ar (dx.len+dy.len)))
     exact⟨v',w',q1,ay.up g1 q2⟩
    ·simp[Rd.run]at hr
   ·simp[Rd.run]at hr
  |rows ver e0 ei k l =>
   simp only at hr;split at hr
   ·rename_i dd hc
    split at hr
    ·rename_i φ
     obtain⟨rfl,hfy,hwd⟩:=φ;obtain⟨θ,hr⟩:=b8 hr;simp only[Rd.run,AC]at hr;subst hr;have hab1:=nj hf θ
     have hoo:=xc hfy
     have ho1:(State.mk σ.fr (fy++σ.hp)).H o=some (some (.rows ver e0 ei k l)):=by rw[gv hoo];exact ho
     obtain⟨wH,mu2,g2,s2,k2,e2⟩:=s1.cv1 ho1 (.inr ⟨_,_,_,_,_,rfl,rfl⟩);have hx2:=ai.mono (e1.trans e2) hx
     have ho2:(State.mk σ.fr ((o,some (.lst (ver+1) e0 (.rows k l)))::(fy++σ.hp))).H o=some (some (.lst (ver+1) e0 (.rows k l))):=by rw[lV];simp
     have hv:vx=(mu2 o).hd:=aP (C:=(C.fz wG).fz wH) ho2 hx2
     subst hv;obtain⟨_,vs,h2,h3⟩:=s2.ob o _ ho2;have hdo:o≠d:=fun hc=>by rw[hc,θ]at ho;cases ho
     obtain⟨news,n1,n2⟩:=hels (HS hc) wG mu1 g1 s1 e1;have hels2:kP wH w vy dy:=⟨news,n1,fun i u hi=>let⟨h4,fc,h5,h6⟩:=n2 i u hi;⟨h4,fc,h5,h6.mono g2.kept⟩⟩
     obtain⟨v',w',q1,q2⟩:=HT s2 hd (d:=d) (by rw[lV];simp only[hdo,Ag];exact(gv hab1).trans θ) he hby hwd (ty:=ty) (ks:=[o]) h2 h3 hels2 hc hob (.inr ⟨o,_,rfl,ho2,rfl⟩) (p:=some (ar (l.length+dy.len)))
     refine⟨v',w',q1,ay.up g1 (ay.up g2 (ay.eqv (fun t=>by rw[lR,lR];rfl) (fun x=>?_) q2))⟩
     show lk ((d,some (Ob.lst 0 e0 dd))::(o,none)::(fy++σ.hp)) x=lk ((d,some (Ob.lst 0 e0 dd))::(o,none)::(o,some (.lst (ver+1) e0 (.rows k l)))::(fy++σ.hp)) x
     simp only[bt];by_cases h1:d=x
     ·simp[h1]
     ·by_cases h2:o=x<;>simp[h1,h2]
    ·simp[Rd.run]at hr
   ·simp[Rd.run]at hr
  |_=>simp[Rd.run]at hr
 |pre o n =>
  obtain⟨ob,ho,hr⟩:=aZ hr;cases ob with
  |lst ver e0 dx =>
   simp only at hr;split at hr
   ·rename_i dx' ht
    split at hr
    ·rename_i dd hc
     split at hr
     ·rename_i φ
      obtain⟨rfl,hfy,hwd⟩:=φ;obtain⟨θ,hr⟩:=b8 hr;simp only[Rd.run,AC]at hr;subst hr;obtain⟨hn,hv⟩:=aP ho hx;have hn:n<=dx.len:=An hn (qU dx)
      have hab1:=nj hf θ
      have hoo:=xc hfy
      have ho1:(State.mk σ.fr (fy++σ.hp)).H o=some (some (.lst ver e0 dx)):=by rw[gv hoo];exact ho
      have hm:mu1 o=mu o:=k1 o hoo
      obtain⟨_,vs,h2,h3⟩:=s1.ob o _ ho1;rw[hm]at h2;obtain⟨t1,t1w,t0,t2⟩:=Pl ht (by omega)
      obtain⟨v',w',q1,q2⟩:=HT s1 hd (d:=d) (by rw[gv hab1];exact θ) he hby hwd (ty:=ty) (ks:=[o]) (by rw[t1,t1w];exact O9 h2 hv hn) (fun i u hi=>by
        have hin:i<n*dx.wid:=by
         have:=(AJ.1 hi).1
         rw[AS]at this;omega
        rw[Au,AA hin]at hi;obtain⟨h4,fc,h5,h6⟩:=h3 i u hi;exact⟨h4,fc,t2 i fc hin (by rw[AK];exact h5),h6⟩) (hels (HS hc) wG mu1 g1 s1 e1) hc (by rw[t1];exact hob) (.inr ⟨o,_,rfl,ho1,by rw[hm];exact HK hv⟩) (p:=some (ar (n+dy.len)))
      exact⟨v',w',q1,ay.up g1 q2⟩
     ·simp[Rd.run]at hr
    ·simp[Rd.run]at hr
   ·simp[Rd.run]at hr
  |_=>simp[Rd.run]at hr
 |_=>simp[Rd.run]at hr
theorem HU{w:World}{e:TypeId}{n:Nat}{v:Value}{xs:List Value}(h:w.ownsRow 0 e 1 v n xs):mO w v xs:=by
 have hl:xs.length=n:=by simpa using h.1
 rcases h.2 with⟨h1,h2⟩|⟨g,cap,cur,rfl,_,hg,hnc,hcm,hcs,htake⟩
 ·exact .inl ⟨h1,BJ (by omega)⟩
 ·refine .inr ⟨g,0,cap,by rw[hl],by omega,hcm,(A5.1 hg).1,fun j hj=>?_,fun i u hu=>?_⟩
  ·rw[AK,cell_of_row w g j cur e (0,0) hg]
   refine⟨by simp[hcs,hj],?_⟩
   simp[World.frozen?,hg]
  ·have hi:i<n:=by have:=(AJ.1 hu).1;omega
   rw[AK,iV h (b:=g) rfl i hi];exact hu
theorem Pn(g:Nat):∀(vs:List Value) (o:Nat) (w:World),GrB w (w.setCells g o vs) (some g)/\(w.setCells g o vs).heap.size=w.heap.size
 | [],o,w=>⟨⟨.refl _,rfl,rfl,AE _,fun _ _ _=>rfl⟩,rfl⟩
 |v::r,o,w=>by
  obtain⟨⟨h1,h2,h3,h4,h5⟩,h6⟩:=Pn g r (o+1) (w.setCell ⟨g,o,none⟩ v);have hs:(w.setCell ⟨g,o,none⟩ v).heap.size=w.heap.size:=by simp
  refine⟨⟨h1.trans ⟨rfl,AE _⟩,h2,h3,?_,fun k hk hne=>?_⟩,?_⟩
  ·rw[World.setCells,h6,hs];exact AE _
  ·rw[World.setCells,h5 k (by rw[hs];exact hk) hne]
   exact heap_setCell_other w ⟨g,o,none⟩ k v (fun e=>hne (by rw[e]))
  ·rw[World.setCells,h6,hs]
theorem Zt{t ty e:TypeId}(he:bX C.P t=some e)(hb:jn C.P e=true){v y:Value}{m:Nat}{xs news:List Value}(hq:mO w v xs)
  (hy:iW w y m news)(h1:∀u∈news,u.oneCell'=true)(hm:m≠0)(hroom:ar (xs.length+m)) :
  ∃v' w',(Builtin.append_ #[t,t] ty #[v,y]).run C.P w=.ok v' w'/\mO w' v' (xs++news)/\GrB w w' (ac v)/\v'.oneCell'=true /\
   ∀b,ac v'=some b->ac v=some b\/w.heap.size<=b:=by
 rcases hq with⟨rfl,rfl⟩|⟨g,off,cap,rfl,hc1,hc2,hg,hcell,hxs⟩
 ·obtain⟨v',w',q1,q2,q3,q4⟩:=HI (ty:=ty) he hb (v:=.slice none 0 0) (n:=0) (xs:=[]) (World.ownsRow_nil _ _ _ _) hy h1 (by simpa using hroom)
  exact⟨v',w',q1,HU q2,q3,gq q2,q4⟩
 ·obtain⟨i,z,hi,hz,hs,hby,hzs⟩:=js hb
  have ht:=gp he
  obtain⟨yo,c,rfl,hnl,hcellY⟩:=hy;unfold ar at hroom;have hbytes:(xs.length+m)*i.bytes<=140737488355328:=An (BO hroom hby) (by omega)
  obtain⟨ad,rfl,hcl⟩:=hcellY (by omega)
  have hnl':news.length=m*i.size:=by rw[hs,As];exact hnl
  by_cases hfit:xs.length+m<=cap
  ·have hin:∀j,j<news.length->(w.cell? ⟨g,off+xs.length*i.size+j,none⟩).isSome=true:=fun j hj=>by
    rw[hs,As,A0];exact(hcell _ (by omega)).1
   have hr:=run_append_room_cells (P:=C.P) w t ty e i ht hi g off xs.length cap ad m c news hnl' hcl h1 hfit hin
    (fun j hj=>by rw[hs,As,A0];exact(hcell _ (by omega)).2)
   rw[hs,As]at hr hin;obtain⟨k1,k2⟩:=Pn g news (off+xs.length) w;refine⟨_,_,hr,.inr ⟨g,off,cap,by rw[Al,hnl],by rw[Al];omega,hc2,by rw[k2];exact hg,fun j hj=>⟨?_,?_⟩,fun j u hu=>?_⟩,k1,rfl,fun b hb=>.inl hb⟩
   ·by_cases hjx:off+xs.length<=off+j/\off+j<off+xs.length+news.length
    ·have:=World.cell?_setCells_in g news (off+xs.length) w hin (j-xs.length) (by omega)
     rw[show off+xs.length+(j-xs.length)=off+j by omega]at this
     rw[this];rfl
    ·rw[World.cell?_setCells_out g news (off+xs.length) w ⟨g,off+j,none⟩ (fun _ _=>by show off+j<_\/_<=off+j;omega)]
     exact(hcell j hj).1
   ·rw[World.frozen?_setCells];exact(hcell j hj).2
   ·by_cases hjx:j<xs.length
    ·rw[Am hjx]at hu
     rw[World.cell?_setCells_out g news (off+xs.length) w ⟨g,off+j,none⟩ (fun _ _=>by show off+j<_\/_<=off+j;omega)]
     exact hxs j u hu
    ·rw[Aq (by omega)]at hu
     obtain⟨ψ,hu⟩:=AJ.1 hu;have:=World.cell?_setCells_in g news (off+xs.length) w hin (j-xs.length) ψ
     rw[show off+xs.length+(j-xs.length)=off+j by omega]at this
     rw[this,hu]
  ·have hxs':∀j u,xs[j]?=some u->w.cell? ((⟨g,off,none⟩:Addr).add j)=some u:=fun j u hu=>by rw[Addr.add_lit];exact hxs j u hu
   have hr:=run_append_grow (P:=C.P) w t ty e i z ht hi hz ⟨g,off,none⟩ xs.length cap xs (by rw[hs];simp) hxs' ad m c news hnl' hcl (by omega) (by omega) (growslice_fits (by omega) hbytes)
   have hge:=grownCap_ge w (xs.length+m) cap e
   have hcm:grownCap w (xs.length+m) cap e<=maxLen:=grownCap_le_maxLen w (xs.length+m) cap e (by unfold maxLen;omega)
   have own:(w.drew.alloc (.cells (xs.toArray++news.toArray++Builtin.zeroCells z.cells (grownCap w (xs.length+m) cap e-(xs.length+m))) e)).ownsRow 0 e 1
     (.slice (some ⟨w.heap.size,0,none⟩) (xs.length+m) (grownCap w (xs.length+m) cap e)) (xs.length+m) (xs++news):=by
    refine⟨by simp[hnl],.inr ⟨w.heap.size,_,_,rfl,Ad _,heap_alloc_new w.drew _,hge,hcm,?_,?_⟩⟩
    ·simp only[DE,CC,size_zeroCells,hzs,hnl]
     omega
    ·simp only[DF,Ap]
     rw[<-Ap,show(xs.length+m)*1=(xs++news).length by simp[hnl]]
     exact Ce
   refine⟨_,_,hr,HU own,⟨⟨rfl,BC _⟩,rfl,rfl,by simp,fun k hk _=>(World.grownBy_alloc w.drew _ none).block k hk (by simp)⟩,rfl,fun b hb=>.inr (by simp[ac]at hb;omega)⟩
theorem Zu(h:St C σ mu a w){dst:Option Nat}(hd:∀d,dst=some d->d<C.N){d:Nat}(θ:σ.H d=none){e t ty:TypeId}(he:bX C.P t=some e)(hby:jn C.P e=true)
  {o:Nat}{e':TypeId}{k:IntKind}{l ys:Db}(ho:σ.H o=some (some (.qu e' k l))){y:Value}(hy:iW w y ys.length (ys.map (.int k)))(hm:ys.length≠0)(hroom:ar (l.length+ys.length)){p:Option Prop} :
  ∃v' w',(Builtin.append_ #[t,t] ty #[(mu o).hd,y]).run C.P w=.ok v' w'/\ay C (σ.app dst ⟨.c (.own d),[(d,some (.qu e' k (l++ys))),(o,none)],p⟩) (a.put dst v') w':=by
 obtain⟨_,hq⟩:=h.ob o _ ho;obtain⟨v',w',hr,hown',hg,hone,hbl⟩:=Zt (ty:=ty) he hby hq hy (nf k ys) hm (by simpa using hroom)
 refine⟨v',w',hr,h.move hd θ [o] ?_ (m:=⟨v',[]⟩) hg.os hg.tape hg.output hg.size ?_ ⟨rfl,by rw[BZ];exact hown'⟩ ?_ ?_ rfl hone⟩
 ·intro o' ho';simp at ho';subst ho';exact⟨_,ho⟩
 ·intro b ψ hk
  exact hg.block b ψ fun hc=>hk o (by simp) (cD hc.symm)
 ·simp only[Img.blocks,Ax,Af]
  cases ac v'<;>simp
 ·intro b hb
  simp only[Img.blocks,Ax,Af,BK]at hb;rcases hbl b hb with h2|h2
  ·exact .inl ⟨o,by simp,cD h2⟩
  ·exact .inr h2
theorem Zv{d:Nat}{t:TypeId}{cx:SC}{lo hi:Option Operand}{vx:Value}{eff:Eff}(hr:(wy C.P d t cx lo hi).run σ=some eff)(hob:eff.obl)
  (hx:ai (σ.env C.wF mu) cx vx)(h:St C σ mu a w){dst:Option Nat}(hd:∀d,dst=some d->d<C.N) :
  ∃v w',(Instr.sliceAt t vx (lo.map a.eval) (hi.map a.eval) none).run C.P w=.ok v w'/\ay C (σ.app dst eff) (a.put dst v) w':=by
 have old:∀{cx},(qC C.P t cx lo hi).run σ=some eff->ai (σ.env C.wF mu) cx vx->∃v w',(Instr.sliceAt t vx (lo.map a.eval) (hi.map a.eval) none).run C.P w=.ok v w'/\ay C (σ.app dst eff) (a.put dst v) w':=fun hr hx=>by
  obtain⟨hhp,v,ω,χ⟩:=Y5 hr hob hx h;exact⟨v,w,ω,St.ex (h.put_pure hd hhp χ)⟩
 cases cx with
 |own o =>
  simp only[wy]at hr;obtain⟨ob,ho,hr2⟩:=aZ hr;cases ob with
  |qu e k l =>
   simp only at hr2;split at hr2
   ·rename_i e' he
    split at hr2
    ·rename_i hs
     obtain⟨l',hr3,hl⟩:=oW hr2 h;cases l' with
     |none=>simp[Rd.run]at hr3
     |some n =>
      simp only at hr3;obtain⟨θ,hr4⟩:=b8 hr3;simp only[Rd.run,AC]at hr4;subst hr4;have hB:0<=n/\n<=(l.length:Int):=hob
      have hv:vx=(mu o).hd:=aP ho hx
      subst hv;obtain⟨_,hq⟩:=h.ob o _ ho;have fin:∀v',(Instr.sliceAt t (mu o).hd (lo.map a.eval) none none).run C.P w=.ok v' w->mO w v' ((l.drop n.toNat).map (.int k))->v'.oneCell'=true->(∀b,ac v'=some b->ac (mu o).hd=some b) ->
        ∃v w',(Instr.sliceAt t (mu o).hd (lo.map a.eval) (Option.map a.eval none) none).run C.P w=.ok v w'/\ay C (σ.app dst ⟨.c (.own d),[(d,some (.qu e k (l.drop n.toNat))),(o,none)],some (0<=n/\n<=(l.length:Int))⟩) (a.put dst v) w':=fun v' q1 q2 q3 q4=>by
       refine⟨v',w,q1,h.move hd θ [o] ?_ (m:=⟨v',[]⟩) (.refl _) rfl rfl (AE _) (fun _ _ _=>rfl) ⟨rfl,q2⟩ ?_ ?_ rfl q3⟩
       ·intro o' ho';simp at ho';subst ho';exact⟨_,ho⟩
       ·simp only[Img.blocks,Ax,Af]
        cases ac v'<;>simp
       ·intro b hb
        simp only[Img.blocks,Ax,Af,BK]at hb;exact .inl ⟨o,by simp,cD (q4 b hb)⟩
      rcases hq with⟨h2,h3⟩|⟨g,off,cap,h2,hc1,hc2,hg,hcell,hxs⟩
      ·have h0:l.length=0:=by rw[<-Ae (f:=Value.int k),h3];rfl
       have hl0:l=[]:=BJ h0
       have n0:n=0:=by omega
       subst n0;subst hl0;have ω:=oX (w:=w) he hs (x:=none) (len:=0) (cap:=0) (lo:=lo.map a.eval) (hi:=none) hl (h:=none) rfl (by simp[bD]) (AE _)
       rw[<-h2]at ω;refine fin _ ω (.inl ⟨by simp[bQ,dg],rfl⟩) rfl fun b hb=>by simp[bQ,ac]at hb
      ·rw[Ae]at h2 hc1
       have ω:=oX (w:=w) he hs (x:=some ⟨g,off,none⟩) (len:=l.length) (cap:=cap) (lo:=lo.map a.eval) (hi:=none) hl (h:=none) rfl (by simpa[bD]using hB) hc1
       rw[<-h2]at ω;simp only[bQ,dg,CE,Addr.add_lit]at ω;refine fin _ ω ?_ rfl fun b hb=>?_
       ·by_cases hcap:cap=n.toNat
        ·have e1:l.drop n.toNat=[]:=Cs (by omega)
         rw[AA hcap,e1];exact .inr ⟨g,off,0,by simp;omega,by simp,by omega,hg,fun j hj=>by omega,fun i u hu=>by simp at hu⟩
        ·rw[AB hcap]
         refine .inr ⟨g,off+n.toNat,cap-n.toNat,by simp,by simp;omega,by omega,hg,fun j hj=>by rw[A0];exact hcell _ (by omega),fun i u hu=>?_⟩
         rw[A0];refine hxs _ u ?_
         rw[List.map_drop,A9]at hu;exact hu
       ·rw[h2]
        split at hb<;>simpa[ac]using hb
    ·simp[Rd.run]at hr2
   ·simp[Rd.run]at hr2
  |_=>exact old hr2 hx
 |_=>simp only[wy]at hr;exact old hr hx
theorem Zw{w:World}{e:TypeId}{v:Value}{L n:Nat}{xs:List Value}(h:w.ownsRow 0 e 1 v L xs)(hn:n<=L):∃cap x,(x=none\/∃g,x=some ⟨g,0,none⟩)/\v=.slice x L cap/\L<=cap/\w.ownsRow 0 e 1 (.slice x n cap) n (xs.take n):=by
 obtain⟨h1,h2⟩:=h;rcases h2 with⟨rfl,rfl⟩|⟨g,cap,cur,rfl,q1,q2,q3,q4,q5,q6⟩
 ·have:n=0:=by omega
  subst this;exact⟨0,none,.inl rfl,rfl,AE _,by simp,.inl ⟨rfl,rfl⟩⟩
 ·refine⟨cap,_,.inr ⟨g,rfl⟩,rfl,q3,by simp at h1⊢;omega,.inr ⟨g,cap,cur,rfl,q1,q2,by omega,q4,q5,?_⟩⟩
  rw[<-q6,DH]
  congr 1
  simp;omega
theorem Zx{d:Nat}{t:TypeId}{cx:SC}{lo hi:Option Operand}{vx:Value}{eff:Eff}(hr:(GP C.P d t cx lo hi).run σ=some eff)(hob:eff.obl)
  (hx:ai (σ.env C.wF mu) cx vx)(h:St C σ mu a w){dst:Option Nat}(hd:∀d,dst=some d->d<C.N) :
  ∃v w',(Instr.sliceAt t vx (lo.map a.eval) (hi.map a.eval) none).run C.P w=.ok v w'/\ay C (σ.app dst eff) (a.put dst v) w':=by
 unfold GP at hr;split at hr
 ·rename_i o
  obtain⟨ob,ho,hr⟩:=aZ hr;split at hr
  ·rename_i e he
   split at hr
   ·rename_i hs
    obtain⟨oi,hr2,hhi⟩:=oW hr h;cases oi with
    |none=>simp[Rd.run]at hr2
    |some n =>
     simp only at hr2;split at hr2
     ·rename_i L ob' htr
      obtain⟨θ,hr3⟩:=b8 hr2;simp only[Rd.run,AC]at hr3;subst hr3;have hB:0<=n/\n<=(L:Int):=hob
      have key:∀{e0:TypeId} {xs:List Value} {mk:Value->Img},(mu o).hd=vx->w.ownsRow 0 e0 1 vx L xs->(∀v,w.ownsRow 0 e0 1 v n.toNat (xs.take n.toNat)->aR (σ.env C.wF mu) w ⟨v,[]⟩ ob')->ob'.isFz=false ->
        ∃v w',(Instr.sliceAt t vx (Option.map a.eval none) (hi.map a.eval) none).run C.P w=.ok v w'/\ay C (σ.app dst ⟨.c (.own d),[(d,some ob'),(o,none)],some (0<=n/\n<=(L:Int))⟩) (a.put dst v) w':=fun {e0 xs mk} hhd hrow hmk hnf=>by
       obtain⟨cap,x,hx0,hv,hcap,hrow'⟩:=Zw hrow (n:=n.toNat) (by omega)
       have ω:=oX (w:=w) he hs (x:=x) (len:=L) (cap:=cap) (lo:=Option.map a.eval none) (hi:=hi.map a.eval) (l:=none) rfl hhi hB hcap
       rw[<-hv]at ω;have hval:Value.slice (if cap=bQ none then x else x.map (·.add (bQ none))) (dg L (some n)-bQ none) (cap-bQ none)=.slice x n.toNat cap:=by
        rcases hx0 with rfl|⟨g,rfl⟩
        ·by_cases hc:cap=0<;>simp[bQ,dg,hc]
        ·simp[bQ,dg,Addr.add_lit]
       rw[hval]at ω;refine⟨_,w,ω,h.move hd θ [o] ?_ (m:=⟨.slice x n.toNat cap,[]⟩) (.refl _) rfl rfl (AE _) (fun _ _ _=>rfl) (hmk _ hrow') ?_ ?_ rfl ?_ hnf⟩
       ·intro o' ho';simp at ho';subst ho';exact⟨_,ho⟩
       ·simp only[Img.blocks,Ax,Af]
        cases ac (Value.slice x n.toNat cap)<;>simp
       ·intro b hb
        simp only[Img.blocks,Ax,Af,BK]at hb;refine .inl ⟨o,by simp,cD ?_⟩
        rw[hhd,hv];cases x with
        |none=>simp[ac]at hb
        |some y=>simpa[ac]using hb
       ·rfl
      cases ob with
      |ints e0 k r =>
       simp only[wz,AC,BB]at htr;obtain⟨rfl,rfl⟩:=htr;have hv:vx=(mu o).hd:=aP ho hx
       obtain⟨h1,h2⟩:=h.ob o _ ho;rw[<-hv]at h2;exact key (mk:=fun v=>⟨v,[]⟩) hv.symm h2 (fun v hrow=>⟨rfl,by
        have hl:(r.take n.toNat).length=n.toNat:=by rw[AS];omega
        rw[hl,B5];exact hrow⟩) rfl
      |lst ver e0 d0 =>
       cases d0<;>simp only[wz,AC,BB,reduceCtorEq]at htr
       rename_i k r;obtain⟨rfl,rfl⟩:=htr;have hv:vx=(mu o).hd:=aP ho hx
       obtain⟨h1,vs,h2,h3⟩:=h.ob o _ ho;rw[<-hv]at h2;exact key (mk:=fun v=>⟨v,[]⟩) hv.symm h2 (fun v hrow=>by
        have hl:(r.take n.toNat).length=n.toNat:=by rw[AS];omega
        refine⟨rfl,vs.take n.toNat,by show w.ownsRow 0 e0 1 v (r.take n.toNat).length _;rw[hl];exact hrow,fun i u hi=>?_⟩
        rw[Au]at hi;split at hi
        ·rename_i hin
         obtain⟨q1,fc,q2,q3⟩:=h3 i u hi;refine⟨q1,fc,?_,q3⟩
         simp only[FC.elem]at q2⊢;split at q2
         ·rename_i hir
          cases q2;rw[AA (by rw[AS];omega)]
          simp[List.getD,Au,hin]
         ·cases q2
        ·cases hi) rfl
      |_=>simp only[wz,reduceCtorEq]at htr
     ·simp[Rd.run]at hr2
   ·simp[Rd.run]at hr
  ·simp[Rd.run]at hr
 ·simp[Rd.run]at hr
theorem Zy{dx dy dd:FC}(h:jQ dx dy=some dd):dd.dep=dx.dep/\dy.dep=dx.dep/\dx.dep≠0/\dd.len=dx.len+dy.len/\dx.wid=dy.wid/\dd.wid=dy.wid/\∀i,cX dd i=if i<dx.cn then cX dx i else cX dy (i-dx.cn):=by
 cases dx<;>cases dy<;>simp only[jQ,reduceCtorEq]at h
 case p3.p3 =>
  split at h
  ·rename_i hk
   subst hk;cases h;refine⟨rfl,rfl,by simp[FC.dep],by simp[FC.len],rfl,rfl,fun i=>?_⟩
   simp only[cX,FC.cn,FC.len,FC.wid,HQ];split<;>rename_i hi
   ·exact(AA hi).symm
   ·exact(AB hi).symm
  ·cases h
 all_goals
  split at h
  ·rename_i hk
   subst hk;cases h;refine⟨rfl,rfl,by simp[FC.dep],by simp[FC.len],rfl,rfl,fun i=>?_⟩
   simp only[cX,FC.cn,FC.wid,As,FC.len,AN];split
   ·rename_i hi
    rw[Am hi]
   ·rename_i hi
    rw[Aq (by omega)]
  ·cases h
theorem HV{wd d:Nat}{e t ty:TypeId}{cx:SC}{o2 ver2:Nat}{es2:List TypeId}{dy:FC}{vx vy:Value}{eff:Eff}(hr:(qE wd d e cx o2 es2 dy).run σ=some eff)(hob:eff.obl)(he:bX C.P t=some e)(hby:oZ C.P e wd)
  (hx:ai (σ.env C.wF mu) cx vx)(ho2:σ.H o2=some (some (.tr ver2 es2 dy)))(hvy:vy=(mu o2).hd)(h:St C σ mu a w){dst:Option Nat}(hd:∀d,dst=some d->d<C.N) :
  ∃v w',(Builtin.append_ #[t,t] ty #[vx,vy]).run C.P w=.ok v w'/\ay C (σ.app dst eff) (a.put dst v) w':=by
 unfold qE at hr;split at hr
 ·rename_i o
  obtain⟨ob,ho,hr2⟩:=aZ hr;clear hr;have hnf:ob.isFz=false:=by cases ob<;>first|rfl|simp[Rd.run]at hr2
  have hv:vx=(mu o).hd:=aP ho hx hnf
  clear hnf;cases ob with
  |tr ver es dx =>
   simp only at hr2;split at hr2
   ·rename_i dd hc
    split at hr2
    ·rename_i φ
     obtain⟨hes,hhead,hne,hwd⟩:=φ;subst hwd;have hes:=jk hes
     subst hes;obtain⟨θ,hr3⟩:=b8 hr2;simp only[Rd.run,AC]at hr3;subst hr3;obtain⟨c1,c2,c3,c4,cw,cw2,c5⟩:=Zy hc;obtain⟨nx,hmx,tx⟩:=h.ob o _ ho;obtain⟨ny,hmy,tyy⟩:=h.ob o2 _ ho2;have bx:=ef tx
     have by':=ef tyy
     have lx:es.length=dx.dep+1:=by
      match es,tx with
      | [],tx=>exact False.elim tx
      | [_],⟨_,k,l,h2,_⟩=>subst h2;simp[FC.dep]at c3
      |_::_::_,⟨_,h2,_⟩=>simp[h2]
     match es,tx,tyy,hhead,lx,bx,by',ho,ho2,hmx,hmy with
     | [],_,_,_,lx,_,_,_,_,_,_=>simp at lx
     | [_],_,_,_,lx,_,_,_,_,_,_=>simp at lx;omega
     |e1::e2::es',tx,tyy,hhead,lx,bx,by',ho,ho2,hmx,hmy =>
      have he1:e1=e:=by simpa using hhead
      subst he1;have lnx:=jO tx
      have lny:=jO tyy
      have hhx:(mu o).hd=aK nx:=by rw[hmx];rfl
      have hhy:(mu o2).hd=aK ny:=by rw[hmy];rfl
      have Bx:(mu o).blocks=aW (e1::e2::es').length nx:=by rw[hmx];exact bx
      have By:(mu o2).blocks=aW (e1::e2::es').length ny:=by rw[hmy];exact by'
      have ndx:=(h.nd o _ ho).1
      have ndy:=(h.nd o2 _ ho2).1
      rw[Bx,AR,dM]at ndx;rw[By,AR,dM]at ndy;have sepxy:∀b∈aW (e1::e2::es').length nx,b ∉ aW (e1::e2::es').length ny:=fun b hb hb2=>h.sep o o2 _ _ hne ho ho2 b (by rw[Bx];exact hb) (by rw[By];exact hb2)
      have oldx:=tx.block
      have oldy:=tyy.block
      obtain⟨x1,x2,x3,x4⟩:=tx;obtain⟨y1,y2,y3,y4⟩:=tyy;have hcells:m8 w (aK ny) dy.wid dy.len ((bo ny).map aK):=by
       have:=Pa y3 (cL y3) (by omega)
       rwa[AU (by rw[Ae,lny];exact AE _)]at this
      rw[cw]at x3;obtain⟨v',w',q1,q2,q3,q4⟩:=HH (ty:=ty) he hby x3 hcells (fun u hu=>by
       obtain⟨kid,hk,rfl⟩:=AT.1 hu;obtain⟨i,hi⟩:=Ah hk;obtain⟨x,hx1,_⟩:=lH y2 i;exact(y4 i kid x hi hx1).one) hob
      rw[m9 x3]at q3;subst hv;subst hvy;rw[hhx,hhy];have kx:∀u∈bo nx,∀b∈aW (e2::es').length u,b∈aW (e1::e2::es').length nx:=fun u hu b hb=>dE.2 (.inr ⟨u,hu,hb⟩)
      have ky:∀u∈bo ny,∀b∈aW (e2::es').length u,b∈aW (e1::e2::es').length ny:=fun u hu b hb=>dE.2 (.inr ⟨u,hu,hb⟩)
      have hdx:∀b,ac (aK nx)=some b->b∈aW (e1::e2::es').length nx:=fun b hb=>dE.2 (.inl hb)
      have nx1:∀u∈bo nx,∀b∈aW (e2::es').length u,ac (aK nx)≠some b:=fun u hu b hb hc=>(Ak.1 ndx).2.2 b (by rw[hc];simp) b (Ao.2 ⟨u,hu,hb⟩) rfl
      have ny1:∀u∈bo ny,∀b∈aW (e2::es').length u,ac (aK nx)≠some b:=fun u hu b hb hc=>sepxy b (hdx b hc) (ky u hu b hb)
      have keep:∀b,b<w.heap.size->ac (aK nx)≠some b->w'.heap[b]?=w.heap[b]?:=fun b hb hn=>q3.block b hb fun hc=>hn hc.symm
      have hT:br w' (e1::e2::es') (bu v' (bo nx++bo ny)) dd:=by
       refine⟨rfl,c1.trans x2,?_,fun i u x hu hx=>?_⟩
       ·rw[eF,cY,BZ,c4,cw2]
        exact q2
       ·rw[cY]at hu
        rw[c5]at hx;by_cases hi:i<(bo nx).length
        ·rw[Am hi]at hu
         rw[AA (by omega)]at hx
         exact(x4 i u x hu hx).keep fun b hb=>keep b (oldx b (kx u (AI hu) b hb)) (nx1 u (AI hu) b hb)
        ·rw[Aq (by omega)]at hu
         rw[AB (by omega),<-lnx]at hx
         exact(y4 _ u x hu hx).keep fun b hb=>keep b (oldy b (ky u (AI hu) b hb)) (ny1 u (AI hu) b hb)
      have hB:=ef hT
      rw[AR,dM,eF,cY,Cy]at hB;refine⟨v',w',q1,h.move hd θ [o,o2] ?_ (m:=dw (e1::e2::es').length (bu v' (bo nx++bo ny))) q3.os q3.tape q3.output q3.size ?_ ⟨_,rfl,hT⟩ ?_ ?_ rfl (gq q2)⟩
      ·intro o' ho'
       simp at ho'
       rcases ho' with rfl|rfl
       ·exact⟨_,ho⟩
       ·exact⟨_,ho2⟩
      ·intro b ψ hk
       refine keep b ψ fun hc=>hk o (by simp) ?_
       rw[Bx];exact hdx b hc
      ·rw[AR,hB,Ak]
       refine⟨by cases ac v'<;>simp,?_,fun b hb c hc e=>?_⟩
       ·rw[Ak]
        refine⟨(Ak.1 ndx).2.1,(Ak.1 ndy).2.1,fun b hb c hc e=>?_⟩
        subst e;obtain⟨u,hu,hb⟩:=Ao.1 hb;obtain⟨u',hu',hc⟩:=Ao.1 hc;exact sepxy b (kx u hu b hb) (ky u' hu' b hc)
       ·subst e
        rw[BK]at hb;have hcc:(∃u∈bo nx,b∈aW (e2::es').length u)\/∃u∈bo ny,b∈aW (e2::es').length u:=by
         rcases AL.1 hc with hc|hc
         ·exact .inl (Ao.1 hc)
         ·exact .inr (Ao.1 hc)
        have hold:b<w.heap.size:=by
         rcases hcc with⟨u,hu,hb2⟩|⟨u,hu,hb2⟩
         ·exact oldx b (kx u hu b hb2)
         ·exact oldy b (ky u hu b hb2)
        rcases q4 b hb with k|k
        ·rcases hcc with⟨u,hu,hb2⟩|⟨u,hu,hb2⟩
         ·exact nx1 u hu b hb2 k
         ·exact ny1 u hu b hb2 k
        ·omega
      ·intro b hb
       rw[AR,hB]at hb;rcases AL.1 hb with hb|hb
       ·rw[BK]at hb
        rcases q4 b hb with k|k
        ·exact .inl ⟨o,by simp,by rw[Bx];exact hdx b k⟩
        ·exact .inr k
       ·rcases AL.1 hb with hc|hc
        ·obtain⟨u,hu,hb2⟩:=Ao.1 hc
         exact .inl ⟨o,by simp,by rw[Bx];exact kx u hu b hb2⟩
        ·obtain⟨u,hu,hb2⟩:=Ao.1 hc
         exact .inl ⟨o2,by simp,by rw[By];exact ky u hu b hb2⟩
    ·simp[Rd.run]at hr2
   ·simp[Rd.run]at hr2
  |_=>simp[Rd.run]at hr2
 ·simp[Rd.run]at hr
theorem Zz{d:Nat}{t ty:TypeId}{cx cy:SC}{vx vy:Value}{eff:Eff}(hr:(GU C.P d t cx cy).run σ=some eff)(hob:eff.obl)
  (hx:ai (σ.env C.wF mu) cx vx)(hy:ai (σ.env C.wF mu) cy vy)(h:St C σ mu a w){dst:Option Nat}(hd:∀d,dst=some d->d<C.N) :
  ∃v w',(Builtin.append_ #[t,t] ty #[vx,vy]).run C.P w=.ok v w'/\ay C (σ.app dst eff) (a.put dst v) w':=by
 unfold GU at hr;split at hr
 ·simp[Rd.run]at hr
 ·rename_i e he
  split at hr
  ·rename_i hby
   split at hr
   ·rename_i k hu
    obtain⟨ys,hr2,hc⟩:=Zg hr hy h;clear hr;cases cx with
    |nil =>
     simp only[ai]at hx;subst hx;obtain⟨θ,hr3⟩:=b8 hr2;simp only[Rd.run,AC]at hr3;subst hr3;exact ni h hd θ he hby (cx:=.nil) (ks:=[]) (n:=0) (World.ownsRow_nil _ _ _ _) hc (nf k ys) (by simpa[Eff.obl]using hob) (.inl ⟨rfl,rfl⟩)
      (fun w' v' ho=>⟨rfl,by simpa using ho⟩) rfl
    |emp =>
     obtain⟨bs,rfl⟩:=hx;obtain⟨θ,hr3⟩:=b8 hr2;simp only[Rd.run,AC]at hr3;subst hr3;obtain⟨hne,hroom⟩:ys.length≠0/\ar ys.length:=hob;obtain⟨v',w',q1,q2,q3,q4⟩:=Ze (ty:=ty) he hby (bs:=bs) hc (nf k ys) hne hroom;refine⟨v',w',q1,h.new hd θ (m:=⟨v',[]⟩) q3 ⟨rfl,q2⟩ ?_ ?_ ?_⟩
     ·simp only[Img.blocks,Ax,Af]
      cases ac v'<;>simp
     ·intro b hb
      exact q4 b (by simpa[Img.blocks]using hb)
     ·refine⟨gq q2,?_⟩
      simp only[AV];exact trivial
    |own o =>
     obtain⟨ob,ho,hr3⟩:=aZ hr2;cases ob with
     |ints e' k' l =>
      simp only at hr3;split at hr3
      ·rename_i hek
       obtain⟨rfl,rfl⟩:=hek;obtain⟨θ,hr4⟩:=b8 hr3;simp only[Rd.run,AC]at hr4;subst hr4;have hv:vx=(mu o).hd:=aP ho hx
       subst hv;have:=h.ob o _ ho
       exact ni h hd θ he hby (cx:=.nil) (ks:=[o]) this.2 hc (nf k' ys) hob (.inr ⟨o,_,rfl,ho,rfl⟩)
        (fun w' v' ho=>⟨rfl,by simpa using ho⟩) rfl
      ·simp[Rd.run]at hr3
     |qu e' k' l =>
      simp only at hr3;split at hr3
      ·rename_i hek
       obtain⟨rfl,rfl⟩:=hek;obtain⟨θ,hr4⟩:=b8 hr3;simp only[Rd.run,AC]at hr4;subst hr4;have hv:vx=(mu o).hd:=aP ho hx
       subst hv;exact Zu h hd θ he hby ho hc hob.1 hob.2
      ·simp[Rd.run]at hr3
     |_=>simp[Rd.run]at hr3
    |row o ver i =>
     obtain⟨ob,ho,hr3⟩:=aZ hr2;cases ob with
     |rows ver' e1 ei k' l =>
      simp only at hr3;split at hr3
      ·rename_i hek
       obtain⟨rfl,rfl,rfl⟩:=hek;obtain⟨θ,hr4⟩:=b8 hr3;obtain⟨habs2,hr5⟩:=b8 hr4;simp only[Rd.run,AC]at hr5;subst hr5;obtain⟨hins,hilt⟩:=(aP ho hx).2 rfl;obtain⟨_,h2⟩:=h.take ho rfl (Zn (h.ob o _ ho)) habs2 hins (by simp)
       have hid:(State.mk σ.fr (jS (d+500000) o (ver'+1) e1 ei k' l [i] i++σ.hp)).H (d+500000)=some (some (.ints ei k' (l.getD i []))):=by
        show lk ((d+500000,_)::_) _=_
        rw[bt,AA rfl]
       have hno:o≠d:=fun hc=>by rw[<-hc,ho]at θ;cases θ
       have habs':(State.mk σ.fr (jS (d+500000) o (ver'+1) e1 ei k' l [i] i++σ.hp)).H d=none:=by
        show lk ((d+500000,_)::(o,_)::_) _=_
        rw[bt,bt,AB (by omega),AB hno];exact θ
       have hrow:=h2.ob _ _ hid
       simp only[AV]at hrow;obtain⟨v',w',q1,q2⟩:=ni h2 hd habs' he hby (ty:=ty) (cx:=.nil) (ks:=[d+500000]) (p:=some (ar ((l.getD i []).length+ys.length))) hrow.2 hc (nf k' ys) hob (.inr ⟨d+500000,_,rfl,hid,by simp⟩)
        (ob:=.ints ei k' (l.getD i []++ys)) (fun w' v' ho=>⟨rfl,by simpa using ho⟩) rfl
       refine⟨v',w',q1,?_⟩
       have e1:∀val p,(State.mk σ.fr (jS (d+500000) o (ver'+1) e1 ei k' l [i] i++σ.hp)).app dst ⟨val,(d,some (.ints ei k' (l.getD i []++ys)))::[d+500000].map (fun o=>(o,none)),p⟩ =
         σ.app dst ⟨val,[(d,some (.ints ei k' (l.getD i []++ys))),(d+500000,none)]++jS (d+500000) o (ver'+1) e1 ei k' l [i] i,p⟩:=fun val p=>by
        simp only[State.app,BP,List.map_nil,Ap]
        try rfl
       rw[<-e1];exact q2
      ·simp[Rd.run]at hr3
     |_=>simp[Rd.run]at hr3
    |pre o n =>
     obtain⟨ob,ho,hr3⟩:=aZ hr2;cases ob with
     |ints e' k' l =>
      simp only at hr3;split at hr3
      ·rename_i hek
       obtain⟨rfl,rfl⟩:=hek;obtain⟨θ,hr4⟩:=b8 hr3;simp only[Rd.run,AC]at hr4;subst hr4;obtain⟨hn,hv⟩:=aP ho hx;have hn':n<=l.length:=hn
       have:=h.ob o _ ho
       refine ni h hd θ he hby (cx:=.nil) (ks:=[o]) (HJ this.2 hv hn') hc (nf k' ys) hob (.inr ⟨o,_,rfl,ho,HK hv⟩)
        (fun w' v' ho=>⟨rfl,?_⟩) rfl
       rw[Al,AS,CD hn',BZ,B5];exact ho
      ·simp[Rd.run]at hr3
     |_=>simp[Rd.run]at hr3
    |_=>simp[Rd.run]at hr2
   ·rename_i hu
    obtain⟨ys,hr2,hc⟩:=Zi hr hy h;clear hr;cases cx with
    |nil =>
     simp only[ai]at hx;subst hx;obtain⟨θ,hr3⟩:=b8 hr2;simp only[Rd.run,AC]at hr3;subst hr3;exact ni h hd θ he hby (cx:=.nil) (ks:=[]) (n:=0) (World.ownsRow_nil _ _ _ _) hc (HL ys) (by simpa[Eff.obl]using hob) (.inl ⟨rfl,rfl⟩)
      (fun w' v' ho=>⟨rfl,by simpa using ho⟩) rfl
    |own o =>
     obtain⟨ob,ho,hr3⟩:=aZ hr2;cases ob with
     |bools e' l =>
      simp only at hr3;split at hr3
      ·rename_i hek
       subst hek;obtain⟨θ,hr4⟩:=b8 hr3;simp only[Rd.run,AC]at hr4;subst hr4;have hv:vx=(mu o).hd:=aP ho hx
       subst hv;have:=h.ob o _ ho
       exact ni h hd θ he hby (cx:=.nil) (ks:=[o]) this.2 hc (HL ys) hob (.inr ⟨o,_,rfl,ho,rfl⟩)
        (fun w' v' ho=>⟨rfl,by simpa using ho⟩) rfl
      ·simp[Rd.run]at hr3
     |_=>simp[Rd.run]at hr3
    |_=>simp[Rd.run]at hr2
   ·rename_i hu
    obtain⟨ys,hr2,hc⟩:=Zh hr hy h;clear hr;cases cx with
    |own o =>
     obtain⟨ob,ho,hr3⟩:=aZ hr2;cases ob with
     |strs e' l =>
      simp only at hr3;split at hr3
      ·rename_i hek
       subst hek;obtain⟨θ,hr4⟩:=b8 hr3;simp only[Rd.run,AC]at hr4;subst hr4;have hv:vx=(mu o).hd:=aP ho hx
       subst hv;have:=h.ob o _ ho
       exact ni h hd θ he hby (cx:=.nil) (ks:=[o]) this.2 hc (Pc ys) hob (.inr ⟨o,_,rfl,ho,rfl⟩)
        (fun w' v' ho=>⟨rfl,by simpa using ho⟩) rfl
      ·simp[Rd.run]at hr3
     |_=>simp[Rd.run]at hr3
    |_=>simp[Rd.run]at hr2
   ·rename_i ei0 hu
    cases cy with
    |own o2 =>
     obtain⟨ob2,ho2,hr2⟩:=aZ hr;clear hr;cases ob2 with
     |rows ver2 e2 ei2 k2 ys =>
      simp only at hr2;split at hr2
      ·rename_i hee
       subst hee;have hv2:vy=(mu o2).hd:=aP ho2 hy
       subst hv2;cases cx with
       |nil =>
        simp only[ai]at hx;subst hx;obtain⟨θ,hr3⟩:=b8 hr2;simp only[Rd.run,AC]at hr3;subst hr3;exact Pk h hd θ he hby ho2 (ks:=[]) (l:=[]) (ins:=[]) (World.ownsRow_nil _ _ _ _) rfl (by simp) (by simpa[Eff.obl]using hob) (.inl ⟨rfl,rfl,rfl⟩)
       |own o =>
        obtain⟨ob,ho,hr3⟩:=aZ hr2;cases ob with
        |rows ver1 e1 ei1 k1 l =>
         simp only at hr3;split at hr3
         ·rename_i hek
          obtain⟨rfl,rfl,rfl,hne⟩:=hek;obtain⟨θ,hr4⟩:=b8 hr3;simp only[Rd.run,AC]at hr4;subst hr4;have hv:vx=(mu o).hd:=aP ho hx
          subst hv;obtain⟨q1,q2,q3⟩:=h.ob o _ ho;exact Pk h hd θ he hby ho2 (ks:=[o]) q1 q2 q3 hob (.inr ⟨o,_,rfl,hne,ho,rfl,rfl⟩)
         ·simp[Rd.run]at hr3
        |_=>exact o6 hr3 hob he (js hby) hx hy h hd
       |_=>exact o6 hr2 hob he (js hby) hx hy h hd
      ·simp[Rd.run]at hr2
     |tr ver2 es2 dy=>exact HV hr2 hob he (js hby) hx ho2 (aP ho2 hy) h hd
     |_=>exact o6 hr2 hob he (js hby) hx hy h hd
    |_=>exact o6 hr hob he (js hby) hx hy h hd
   ·cases cy with
    |own o2 =>
     obtain⟨ob2,ho2,hr2⟩:=aZ hr;clear hr;cases ob2 with
     |tr ver2 es2 dy=>exact HV hr2 hob he (js hby) hx ho2 (aP ho2 hy) h hd
     |_=>simp[Rd.run]at hr2
    |_=>simp[Rd.run]at hr
   ·simp[Rd.run]at hr
  ·split at hr
   ·simp[Rd.run]at hr
   ·rename_i hby2
    have hby2:=Zd hby2
    cases cy with
    |own o2 =>
     obtain⟨ob2,ho2,hr2⟩:=aZ hr;clear hr;cases ob2 with
     |tr ver2 es2 dy=>exact HV hr2 hob he hby2 hx ho2 (aP ho2 hy) h hd
     |_=>exact o6 hr2 hob he hby2 hx hy h hd
    |_=>exact o6 hr hob he hby2 hx hy h hd
end
end Go.Sx
