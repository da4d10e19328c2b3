/- HolL -/
import Derived.Test.YtkmldclpaniclaaMpgA
import Derived.Test.YtkmldclpaniclaaCirB
import Derived.Test.YtkmldclpaniclaaMpgM
import Derived.Test.YtkmldclpaniclaaGrpC
import Derived.Test.YtkmldclpaniclaaLists
import Derived.Test.YtkmldclpaniclaaCmp
import Derived.Shelf.SlSortCmp.NoneTotal
import Derived.Lib.OwnBridge
section
open Go Go.Proofs
namespace Go.Sx
set_option linter.unusedSimpArgs false
set_option linter.unusedVariables false
def gM (t:List (List Int)) (x y:Nat):Nat:=(en t x y).toNat
structure GrpT (n:Nat) (t:List (List Int)):Prop where
 tb:bi n t
 pos:1≤n
 z1:∀x,x<n→gM t 0 x=x
 z2:∀x,x<n→gM t x 0=x
 asc:∀x y z,x<n→y<n→z<n→gM t (gM t x y) z=gM t x (gM t y z)
 can:∀x y z,x<n→y<n→z<n→gM t x y=gM t x z→y=z
 inv:∀x,x<n→∃y,y<n∧gM t x y=0
theorem Jl {l:List Int} (h:cu l=true):l.Nodup:=by
 refine List.pairwise_iff_getElem.2 fun i j hi hj hij e=>?_
 have:=kh (a:=(List.range l.length).map (fun x:Nat=>(x:Int))) (b:=l.eraseIdx j) (List.pairwise_map.2 (List.nodup_range.imp fun hne e=>hne (by omega))) (fun x hx=>by
  obtain ⟨y,hy,rfl⟩:=List.mem_map.1 hx;have hy:y<l.length:=by simpa using hy
  obtain ⟨k,hk,ek⟩:=List.mem_iff_getElem.1 (DV h (x:=(y:Int)) (by omega) (by omega))
  rw [List.mem_eraseIdx_iff_getElem];by_cases ej:k=j
  ·subst ej;exact ⟨i,hi,by omega,by rw [e];exact ek⟩
  ·exact ⟨k,hk,ej,ek⟩)
 rw [List.length_map,List.length_range,List.length_eraseIdx] at this;rw [if_pos hj] at this;omega
theorem Jm {t:List (List Int)} (h:cf t=true):bi t.length t:=by
 obtain ⟨_,_,h3⟩:=mQ h;refine ⟨rfl,fun x hx=>⟨(h3 x hx).1,fun y hy=>?_⟩⟩
 have:=(h3 x hx).2 y hy
 simp only [en];omega
theorem pC {t:List (List Int)} (h:bc t=true):GrpT t.length t:=by
 have htb:=Jm (wV h)
 have hpos:=(mQ (wV h)).1
 rw [bc,Bool.and_eq_true,Bool.and_eq_true] at h;obtain ⟨_,hp,hx⟩:=h;have hx:∀x,x<t.length→en t 0 x=x∧en t x 0=x∧∀y,y<t.length→∀z,z<t.length→en t (en t x y).toNat z=en t x (en t y z).toNat:=fun x hxl=>by
  have:=List.all_eq_true.1 hx x (by simpa using hxl)
  simp only [fe,g5,Bool.and_eq_true,decide_eq_true_eq,nk,f8,g4,List.all_eq_true,List.mem_range] at this;exact ⟨this.1.1,this.1.2,fun y hy z hz=>this.2 y hy z hz⟩
 have hperm:∀x,x<t.length→cu (t.getD x [])=true:=fun x hxl=>by
  rw [DU,List.all_eq_true] at hp;exact hp x (by simpa using hxl)
 have row:∀x,x<t.length→(t.getD x []).length=t.length:=fun x hx=>(htb.2 x hx).1
 refine ⟨htb,hpos,fun x hl=>by simp only [gM];rw [(hx x hl).1];simp,fun x hl=>by simp only [gM];rw [(hx x hl).2.1];simp,fun x y z h1 h2 h3=>by simp only [gM];rw [(hx x h1).2.2 y h2 z h3],fun x y z h1 h2 h3 e=>?_,fun x hl=>?_⟩
 ·have hnd:(t.getD x []).Nodup:=Jl (hperm x h1)
  have a1:=(htb.2 x h1).2 y h2
  have a2:=(htb.2 x h1).2 z h3
  have e:en t x y=en t x z:=by simp only [gM] at e;omega
  exact oN hnd (by rw [row x h1];exact h2) (by rw [row x h1];exact h3) e
 ·have:=DV (hperm x hl) (x:=0) (by omega) (by rw [row x hl];omega)
  obtain ⟨y,hy,e⟩:=List.mem_iff_getElem.1 this;exact ⟨y,by rw [←row x hl];exact hy,by rw [gM,en,bU _ _ _ hy,e];rfl⟩
section
variable {n:Nat} {t:List (List Int)}
theorem GrpT.lt (G:GrpT n t) {x y:Nat} (hx:x<n) (hy:y<n):gM t x y<n:=by
 have:=(G.tb.2 x hx).2 y hy
 simp only [gM];omega
theorem GrpT.canR (G:GrpT n t) {x y z:Nat} (hx:x<n) (hy:y<n) (hz:z<n) (e:gM t x z=gM t y z):x=y:=by
 obtain ⟨w,hw,ew⟩:=G.inv z hz;have h1:=G.asc x z w hx hz hw
 have h2:=G.asc y z w hy hz hw
 rw [ew,G.z2 x hx] at h1;rw [ew,G.z2 y hy] at h2;rw [←h1,←h2,e]
def ap (p:List Int) (x:Nat):Nat:=(p.getD x 0).toNat
theorem eB {p:List Int} (h:isoL n [t] [t] p) {x:Nat} (hx:x<n):ap p x<n:=by
 have:=h.rng x hx
 simp only [ap];omega
theorem lE (G:GrpT n t) {p:List Int} (h:isoL n [t] [t] p) {x y:Nat} (hx:x<n) (hy:y<n):ap p (gM t x y)=gM t (ap p x) (ap p y):=by
 have:=(h.g (lm G.tb)).map 0 x y (by simp) hx hy
 simp only [List.getD_cons_zero] at this
 show (p.getD (en t x y).toNat 0).toNat=(en t (p.getD x 0).toNat (p.getD y 0).toNat).toNat
 omega
theorem iJ (G:GrpT n t) {p:List Int} (h:isoL n [t] [t] p):ap p 0=0:=by
 have hp:=G.pos
 have h0:=eB h (x:=0) (by omega)
 have e:=lE G h (x:=0) (y:=0) (by omega) (by omega)
 rw [G.z1 0 (by omega)] at e
 refine (G.can (ap p 0) (ap p 0) 0 h0 h0 (by omega) ?_)
 rw [←e,G.z2 _ h0]
theorem uV:∀(n:Nat) (l:List Nat),l.Nodup→(∀x∈l,x<n)→l.length≤n:=fun n l hl h=>by
 have:=kh (a:=l.map (fun x:Nat=>(x:Int))) (b:=(List.range n).map (fun x:Nat=>(x:Int))) (List.pairwise_map.2 (hl.imp fun hne e=>hne (by omega))) (fun x hx=>by
  obtain ⟨y,hy,rfl⟩:=List.mem_map.1 hx;exact List.mem_map.2 ⟨y,by simpa using h y hy,rfl⟩)
 simpa using this
theorem uW (G:GrpT n t) {p q:List Int} (hp:isoL n [t] [t] p) (hq:isoL n [t] [t] q) (S:List Nat) (hS:∀s∈S,s<n∧ap p s=ap q s) (hnd:S.Nodup) (hl:n<2 * S.length):p=q:=by
 have all:∀y,y<n→ap p y=ap q y:=fun y hy=>Classical.byContradiction fun hne=>by
  have nd:(S++S.map (gM t y)).Nodup:=by
   rw [List.nodup_append];refine ⟨hnd,?_,fun a ha b hb e=>?_⟩
   ·refine List.pairwise_map.2 (List.Pairwise.imp_of_mem (fun {a b} ha hb hne2 e=>hne2 ?_) hnd)
    exact G.can y a b hy (hS a ha).1 (hS b hb).1 e
   ·obtain ⟨s,hs,rfl⟩:=List.mem_map.1 hb
    obtain ⟨hs1,hs2⟩:=hS s hs;have e2:=(hS a ha).2
    rw [e,lE G hp hy hs1,lE G hq hy hs1,hs2] at e2;exact hne (G.canR (eB hp hy) (eB hq hy) (eB hq hs1) e2)
  have:=uV n _ nd (fun x hx=>by
   rcases List.mem_append.1 hx with hx | hx
   ·exact (hS x hx).1
   ·obtain ⟨s,hs,rfl⟩:=List.mem_map.1 hx
    exact G.lt hy (hS s hs).1)
  simp only [List.length_append,List.length_map] at this;omega
 refine li (by rw [hp.len,hq.len]) fun i hi=>?_
 rw [hp.len] at hi;have:=all i hi
 have h1:=hp.rng i hi
 have h2:=hq.rng i hi
 simp only [ap] at this;omega
theorem Jn (G:GrpT n t) (hn:n≤7):∃a b,a<n∧b<n∧∀p q,isoL n [t] [t] p→isoL n [t] [t] q→ap p a=ap q a→ap p b=ap q b→p=q:=by
 have hpos:=G.pos
 by_cases h1:n≤1
 ·exact ⟨0,0,by omega,by omega,fun p q hp hq _ _=>uW G hp hq [0] (fun s hs=>by
   simp only [List.mem_singleton] at hs;subst hs;exact ⟨by omega,by rw [iJ G hp,iJ G hq]⟩) (by simp) (by simp;omega)⟩
 ·by_cases h3:n≤3
  ·exact ⟨1,1,by omega,by omega,fun p q hp hq e _=>uW G hp hq [0,1] (fun s hs=>by
    simp only [List.mem_cons,List.not_mem_nil,or_false] at hs;rcases hs with rfl | rfl
    ·exact ⟨by omega,by rw [iJ G hp,iJ G hq]⟩
    ·exact ⟨by omega,e⟩) (by simp) (by simp;omega)⟩
  ·obtain ⟨v,hv,ev⟩:=G.inv 1 (by omega)
   obtain ⟨b,hb,hb0,hb1,hbv⟩:∃b,b<n∧b≠0∧b≠1∧b≠v:=by
    by_cases e2:v=2
    ·exact ⟨3,by omega,by omega,by omega,by omega⟩
    ·exact ⟨2,by omega,by omega,by omega,by omega⟩
   have hm:=G.lt (x:=1) (y:=b) (by omega) hb
   have m0:gM t 1 b≠0:=fun e=>hbv (G.can 1 b v (by omega) hb hv (by rw [e,ev]))
   have m1:gM t 1 b≠1:=fun e=>hb0 (G.can 1 b 0 (by omega) hb (by omega) (by rw [e,G.z2 1 (by omega)]))
   have mb:gM t 1 b≠b:=fun e=>by
    have:=G.canR (x:=1) (y:=0) (z:=b) (by omega) (by omega) hb (by rw [e,G.z1 b hb])
    omega
   refine ⟨1,b,by omega,hb,fun p q hp hq e1 e2=>uW G hp hq [0,1,b,gM t 1 b] (fun s hs=>?_) ?_ (by simp;omega)⟩
   ·simp only [List.mem_cons,List.not_mem_nil,or_false] at hs
    rcases hs with rfl | rfl | rfl | rfl
    ·exact ⟨by omega,by rw [iJ G hp,iJ G hq]⟩
    ·exact ⟨by omega,e1⟩
    ·exact ⟨hb,e2⟩
    ·exact ⟨hm,by rw [lE G hp (by omega) hb,lE G hq (by omega) hb,e1,e2]⟩
   ·simp only [List.nodup_cons,List.mem_cons,List.not_mem_nil,or_false,not_or,not_false_eq_true,List.nodup_nil,and_true]
    exact ⟨⟨by omega,fun e=>hb0 e.symm,fun e=>m0 e.symm⟩,⟨fun e=>hb1 e.symm,fun e=>m1 e.symm⟩,fun e=>mb e.symm⟩
theorem Jo (G:GrpT n t) (hn:n≤7) {L:List (List Int)} (hL:∀p∈L,isoL n [t] [t] p) (hnd:L.Nodup):L.length≤49:=by
 obtain ⟨a,b,ha,hb,hab⟩:=Jn G hn;have hp:=G.pos
 have nd:(L.map fun p=>ap p a * n+ap p b).Nodup:=List.pairwise_map.2 (List.Pairwise.imp_of_mem (fun {p q} h1 h2 hne e=>by
  have p1:=eB (hL p h1) ha
  have p2:=eB (hL p h1) hb
  have q1:=eB (hL q h2) ha
  have q2:=eB (hL q h2) hb
  have e1:ap p a=ap q a:=by
   have:=congrArg (· / n) e
   simp only [Nat.mul_comm _ n] at this
   rwa [Nat.mul_add_div (by omega),Nat.mul_add_div (by omega),Nat.div_eq_of_lt p2,Nat.div_eq_of_lt q2] at this
  rw [e1] at e;exact hne (hab p q (hL p h1) (hL q h2) e1 (by omega))) hnd)
 have:=uV (n * n) _ nd (fun x hx=>by
  obtain ⟨p,hp,rfl⟩:=List.mem_map.1 hx;have p1:=eB (hL p hp) ha
  have p2:=eB (hL p hp) hb
  have:(ap p a+1) * n≤n * n:=Nat.mul_le_mul_right n (by omega)
  rw [Nat.add_mul] at this;omega)
 have h2:n * n≤7 * 7:=Nat.mul_le_mul hn hn
 simp only [List.length_map] at this;omega
theorem lF (G:GrpT n t) (hn:n≤7):lS [t] [t]:=by
 have e:bj [t]=n:=G.tb.1
 refine ⟨by simp,rfl,by simp,by rw [e];omega,?_,fun _=>?_⟩ <;> rw [e] <;> exact LX (lm G.tb)
theorem uX (G:GrpT n t) (hn:n≤7):(cW [t] [t]).length≤49:=by
 have e:bj [t]=n:=G.tb.1
 obtain ⟨h1,h2⟩:=kf (lF G hn);exact Jo G hn (fun p hp=>by have:=((h1 p).1 hp).2;rwa [e] at this) (na h2)
theorem lG (G:GrpT n t) (hn:n≤7):cW [t] [t]=bg t:=by
 have e:bj [t]=n:=G.tb.1
 obtain ⟨h1,h2⟩:=kf (lF G hn);rw [e] at h1;have E:cW [t] [t]=dW n [t] [t]:=LW h2 (C9 n [t] [t]) fun p=>by
  rw [h1 p,qj (lm G.tb) G.pos];exact ⟨fun k=>⟨k.2,by
   have:=iJ G k.2
   have r:=k.2.rng 0 G.pos
   simp only [ap] at this;omega⟩,fun k=>⟨rfl,k.1⟩⟩
 have hlen:=uX G hn
 rw [E] at hlen ⊢;have e2:nT [t]=n:=G.tb.1
 have F:bg t=(dW n [t] [t]).take 1000000:=by
  rw [bg,fE,if_pos rfl,e2];exact C8 (lm G.tb) rfl G.pos (by omega)
 rw [F,List.take_of_length_le (by omega)]
end
section
variable {n:Nat} {t:List (List Int)}
theorem B6 (G:GrpT n t) (hn:n≤7) {p:List Int} (h:p∈bg t):isoL n [t] [t] p:=by
 rw [←lG G hn] at h;have e:bj [t]=n:=G.tb.1
 have:=(((kf (lF G hn)).1 p).1 h).2
 rwa [e] at this
theorem pD (G:GrpT n t) (hn:n≤7):(bg t).length≤49:=by rw [←lG G hn];exact uX G hn
theorem Jp (G:GrpT n t) (hn:n≤7):(bg t).Nodup:=by
 rw [←lG G hn];exact na (kf (lF G hn)).2
theorem uY {α β:Type} (F:α→List β) (k:Nat):∀l:List α,(∀x∈l,(F x).length≤k)→(l.flatMap F).length≤l.length * k
 | [],_=>by simp
 | x::l,h=>by
  have:=uY F k l fun y hy=>h y (List.mem_cons_of_mem _ hy)
  have h0:=h x List.mem_cons_self
  simp only [List.flatMap_cons,List.length_append,List.length_cons,Nat.add_mul];omega
end
def pE (l:List Int):Post:=⟨l.length≠0∧ag l.length,.c (.ints 2 .i64 (l)),[]⟩
def uZ:List AD→Option Post
 | [.c (.ints .i64 (l))]=>some (pE l)
 | _=>none
def B7:List (Nat×Ctr):=[]
def va (l:List Int):Prop :=
 ((FC.len (FC.ints IntKind.i64 l)≠(0:Nat))∧((ag (([]:List Int).length+l.length))∧(([]++l=l)∧True)))
theorem Jq (l:List Int):aS Try.prog (ai B7) aj ax Try.f46 (aM Try.f46) [] [.c (.ints .i64 (l))] (pE l)=va l:=by kernel_rfl
theorem Jr (l:List Int) (Yh:(pE l).pre):va l:=by
 simp only [pE,va,aR,u1,u2,u3,u4,u5,u6,u7,u8,u9,v1,v2,v3,v4,v5,v6,v7,v8,v9,w1,w2,w3,w4,aI,aa,af,ag,aw] at Yh ⊢;obtain ⟨a,b⟩:=Yh;exact ⟨a,by omega,rfl⟩
theorem Js:Fits Try.prog 46 ⟨[],uZ⟩:=by
 refine aY (Γ:=ai B7) aQ Try.func46 fun ds p h hp=>?_
 unfold uZ at h;split at h
 ·cases h
  exact ⟨aj,ax,by rw [Jq];exact Jr _  hp⟩
 ·cases h
def B8 (fr:List (List (List Int))) (tt:List (List (List Int))):SV:=.fn 61 [.ptr 400 0,.ptr 401 0]
def B9 (fr:List (List (List Int))) (tt:List (List (List Int))):List MA:=[]
def Ca (fr:List (List (List Int))) (tt:List (List (List Int))):List (Nat×Ob):=[(400,(.box [.own (402)])),(401,(.box [.own (403)])),(402,(.lst 0 22 (.r3 .i64 (fr)))),(403,(.lst 0 22 (.r3 .i64 (tt))))]
def pF (fr:List (List (List Int))) (tt:List (List (List Int))):Post:=⟨True,.st (B8 fr tt) (Ca fr tt) (B9 fr tt),[]⟩
def pG:List AD→Option Post
 | [.ma (.m (.ob (.lst 0 22 (.r3 .i64 (fr))))),.ma (.m (.ob (.lst 0 22 (.r3 .i64 (tt)))))]=>some (pF fr tt)
 | _=>none
def Cb:List (Nat×Ctr):=[]
def vd (fr:List (List (List Int))) (tt:List (List (List Int))):Prop :=
 ((fr=fr)∧(tt=tt))
theorem Jt (fr:List (List (List Int))) (tt:List (List (List Int))):jN Try.prog (ai Cb) aj ax Try.f45 (aM Try.f45) [.m (.ob (.lst 0 22 (.r3 .i64 (fr)))),.m (.ob (.lst 0 22 (.r3 .i64 (tt))))] (B8 fr tt) (fM 0 (B9 fr tt)++gk (Ca fr tt))=vd fr tt:=by kernel_rfl
theorem Ju (fr:List (List (List Int))) (tt:List (List (List Int))) (Yh:(pF fr tt).pre):vd fr tt:=by
 simp only [pF,vd,aR,u1,u2,u3,u4,u5,u6,u7,u8,u9,v1,v2,v3,v4,v5,v6,v7,v8,v9,w1,w2,w3,w4,aI,aa,af,ag,aw] at Yh ⊢
theorem Jv:Fits Try.prog 45 ⟨[(0,93),(0,93)],pG⟩:=by
 refine mN (Γ:=ai Cb) aQ Try.func45 (by kernel_rfl) (by kernel_rfl) (fun ads p h=>?_) fun mas q sv ex outs h hq=>?_
 ·unfold pG at h
  split at h
  ·cases h;rfl
  ·cases h
 ·unfold pG at h
  split at h
  ·rename_i heq
   have heq:=lg (l:=[_,_]) heq
   subst heq;unfold pF at h;cases h;exact ⟨aj,ax,by rw [Jt];exact Ju _ _  hq⟩
  ·cases h
theorem Cd:∀(l pre:List (List Int)),aT (fun _ _=>true) pre l=(pre++l,true)
 | [],pre=>by simp [aT]
 | x::l,pre=>by rw [aT,if_pos rfl,Cd l];simp
theorem Ce {ok:List (List Int)→List Int→Prop} (M:Nat):∀(l pre:List (List Int)),(∀pre' x,x∈l→pre'.length<M→ok pre' x)→pre.length+l.length≤M→dS ok (fun _ _=>true) pre l
 | [],pre,_,_=>trivial
 | x::l,pre,h,hM=>by
  simp only [List.length_cons] at hM;exact ⟨h pre x List.mem_cons_self (by omega),fun _=>Ce M l (pre++[x]) (fun pre' y hy=>h pre' y (List.mem_cons_of_mem _ hy)) (by simp;omega)⟩
def pH (t:List (List Int)):Post:=⟨1≤t.length∧lS [t] [t]∧(cW [t] [t]).length≤1000000000,.c (.rows 42 2 .i64 (cW [t] [t])),[]⟩
def ve:List AD→Option Post
 | [.c (.rows .i64 (t))]=>some (pH t)
 | _=>none
def Cf (t:List (List Int)):Nat→Option Ann
 | 0=>some (Ann.rf 2 (fun _ _=>true) (fun pre x=>pre.length<1000000000∧1≤x.length∧x.length≤100) [600] [(3,.c (.ptr 600 0))] (fun pre=>[(600,some (.box [.own (601)])),(601,some (.rows 0 42 2 .i64 (pre)))]) (fun pre=>[(600,some (.box [.own (601)])),(601,some (.rows 0 42 2 .i64 (pre)))]))
 | _=>none
def Cg:List (Nat×Ctr):=[(45,⟨[(0,93),(0,93)],pG⟩),(61,⟨[(0,93),(0,93)],qD⟩),(46,⟨[],uZ⟩)]
def fD (t:List (List Int)):=(t::([]:List (List (List Int))))
def vf (t:List (List Int)):Prop :=
 (True∧((∀p:List (List Int),(true=true∧true=true))∧(((([]:List (List Int))=([]:List (List Int)))∧((t::([]:List (List (List Int)))=t::([]:List (List (List Int))))∧(t::([]:List (List (List Int)))=t::([]:List (List (List Int))))))∧((∀p0:List (List Int),(∀x1:List Int,(((p0.length<(1000000000:Nat))∧(((1:Nat)≤x1.length)∧(x1.length≤(100:Nat))))→((((x1.length≠(0:Nat))∧(ag (x1.length)))∧True)∧((ag (p0.length+(x1::([]:List (List Int))).length))∧((true=true)∧((x1=x1)∧(p0++x1::([]:List (List Int))=p0++x1::([]:List (List Int))))))))))∧(∀Y2:YJ,((YJ.P Y2=Go.Proofs.Try.prog)→((YJ.e Y2=(2:Go.TypeId))→((YJ.go Y2=fun (x:List (List Int)) (x_1:List Int)=>true)→((YJ.ok Y2=fun (pre:List (List Int)) (x:List Int)=>pre.length<(1000000000:Nat)∧(1:Nat)≤x.length∧x.length≤(100:Nat))→(((lS (fD t) (fD t))∧((YJ.P Y2=Go.Proofs.Try.prog)∧((YJ.e Y2=(2:Go.TypeId))∧(dS (YJ.ok Y2) (YJ.go Y2) ([]:List (List Int)) (cW (fD t) (fD t))))))∧((Y2=Y2)∧((((aT (YJ.go Y2) ([]:List (List Int)) (cW (fD t) (fD t))).2=true)→(((aT (YJ.go Y2) ([]:List (List Int)) (cW (fD t) (fD t))).1=cW (fD t) (fD t))∧True))∧(((aT (YJ.go Y2) ([]:List (List Int)) (cW (fD t) (fD t))).2=false)→(False))))))))))))))
theorem Jw (t:List (List Int)):aS Try.prog (ai Cg) aj (Cf t) Try.f26 (aM Try.f26) [] [.c (.rows .i64 (t))] (pH t)=vf t:=by kernel_rfl
theorem Jx (t:List (List Int)) (Yh:(pH t).pre):vf t:=by
 simp only [pH,vf,fD,aR,u1,u2,u3,u4,u5,u6,u7,u8,u9,v1,v2,v3,v4,v5,v6,v7,v8,v9,w1,w2,w3,w4,aI,aa,af,ag,aw] at Yh ⊢;obtain ⟨h1,h2,h3⟩:=Yh;refine ⟨fun _=>trivial,fun p x h=>⟨⟨by omega,by omega⟩,by omega⟩,fun Y q1 q2 q3 q4=>?_⟩
 rw [q3,q4,Cd];have hn:bj [t]=t.length:=rfl
 have h100:=h2.2.2.2.1
 exact ⟨⟨h2,q1,q2,Ce 1000000000 _ [] (fun pre' x hx hp=>⟨hp,by
  have:=(((kf h2).1 x).1 hx).2.len;omega,by
  have:=(((kf h2).1 x).1 hx).2.len;omega⟩) (by simpa using h3)⟩,fun _=>by simp,fun h=>by cases h⟩
theorem Jy:Fits Try.prog 26 ⟨[],ve⟩:=by
 refine aY (Γ:=ai Cg) (aC Jv (aC LV (aC Js aQ))) Try.func26 fun ds p h hp=>?_
 unfold ve at h;split at h
 ·cases h
  exact ⟨aj,Cf _ ,by rw [Jw];exact Jx _  hp⟩
 ·cases h
end Go.Sx
end
section
open Go Go.Proofs Go.RowKit Go.Shelf
namespace Go.Sx
set_option linter.unusedSimpArgs false
set_option linter.unusedVariables false
set_option maxRecDepth 100000
end Go.Sx
end
section
open Go Go.Proofs
namespace Go.Sx
set_option linter.unusedSimpArgs false
set_option linter.unusedVariables false
def pI (a:List Int) (b:List Int):Post:=⟨a.length≤9223372036854775807∧b.length≤9223372036854775807,.c (.bool (decide (a=b))),[]⟩
def vg:List AD→Option Post
 | [.c (.ints .i64 (a)),.c (.ints .i64 (b))]=>some (pI a b)
 | _=>none
def Ch (a:List Int) (b:List Int):Nat→Option Ann
 | 0=>some (Ann.mk ((Nat)) (fun i=>⟨[(0,.c (.ro (.ints .i64 (a)))),(1,.c (.ro (.ints .i64 (b)))),(12,.c (.int .i64 ((a.length:Int)))),(13,.c (.int .i64 ((i:Int))))],[]⟩) (fun i=>i≤a.length∧a.length=b.length∧decide (a=b)=decide (a.drop i=b.drop i)) (fun i=>a.length - i) (fun _=>ax))
 | _=>none
def Ci:List (Nat×Ctr):=[]
def vh (a:List Int) (b:List Int):Prop :=
 (ae ((↑(a.length):Int) != (↑(b.length):Int)) ((false=decide (a=b))∧True) ((∃x0:Nat,(((x0≤a.length)∧((a.length=b.length)∧(decide (a=b)=decide (List.drop x0 a=List.drop x0 b))))∧((a=a)∧((b=b)∧(((↑(a.length):Int)=(↑(a.length):Int))∧((0:Int)=(↑x0:Int)))))))∧(∀x1:Nat,(((x1≤a.length)∧((a.length=b.length)∧(decide (a=b)=decide (List.drop x1 a=List.drop x1 b))))→(ae (decide ((↑x1:Int)<(↑(a.length):Int))) ((aa (↑x1:Int) (a.length))∧((aa (↑x1:Int) (b.length))∧(ae (a.getD ((↑x1:Int).toNat) (0:Int) != b.getD ((↑x1:Int).toNat) (0:Int)) ((false=decide (a=b))∧True) ((af ((↑x1:Int)+(1:Int)))∧(∃x2:Nat,(((x2≤a.length)∧((a.length=b.length)∧(decide (a=b)=decide (List.drop x2 a=List.drop x2 b))))∧((a.length - x2<a.length - x1)∧((a=a)∧((b=b)∧(((↑(a.length):Int)=(↑(a.length):Int))∧((↑x1:Int)+(1:Int)=(↑x2:Int)))))))))))) ((true=decide (a=b))∧True))))))
theorem Jz (a:List Int) (b:List Int):aS Try.prog (ai Ci) aj (Ch a b) Try.f31 (aM Try.f31) [] [.c (.ints .i64 (a)),.c (.ints .i64 (b))] (pI a b)=vh a b:=by kernel_rfl
theorem JA (a:List Int) (b:List Int) (Yh:(pI a b).pre):vh a b:=by
 simp only [pI,vh,aR,u1,u2,u3,u4,u5,u6,u7,u8,u9,v1,v2,v3,v4,v5,v6,v7,v8,v9,w1,w2,w3,w4,aI,aa,af,ag,aw] at Yh ⊢;refine ⟨fun h=>?_,fun h=>⟨⟨0,⟨by omega,by omega,rfl⟩,rfl⟩,fun i ⟨hi,hl,he⟩=>⟨fun h2=>?_,fun h2=>?_⟩⟩⟩
 ·exact (decide_eq_false fun e=>h (by rw [e])).symm
 ·have ea:=drop_cons' a 0 i (by omega)
  have eb:=drop_cons' b 0 i (by omega)
  refine ⟨by omega,by omega,fun h3=>?_,fun h3=>⟨by omega,i+1,⟨by omega,hl,?_⟩,by omega,by omega⟩⟩
  ·rw [he,ea,eb]
   exact (decide_eq_false fun e=>h3 (by injection e)).symm
  ·rw [he,ea,eb,h3]
   simp
 ·rw [he,List.drop_eq_nil_of_le (by omega),List.drop_eq_nil_of_le (by omega)];rfl
theorem JB:Fits Try.prog 31 ⟨[],vg⟩:=by
 refine aY (Γ:=ai Ci) aQ Try.func31 fun ds p h hp=>?_
 unfold vg at h;split at h
 ·cases h
  exact ⟨aj,Ch _ _ ,by rw [Jz];exact JA _ _  hp⟩
 ·cases h
def pJ (p:List Int) (q:List Int):Post:=⟨p.length≤1000∧lv q.length p,.c (.ints 2 .i64 (ba p q)),[]⟩
def vj:List AD→Option Post
 | [.c (.ints .i64 (p)),.c (.ints .i64 (q))]=>some (pJ p q)
 | _=>none
def Cj (p:List Int) (q:List Int):Nat→Option Ann
 | 0=>some (Ann.mk ((Nat)) (fun i=>⟨[(0,.c (.ro (.ints .i64 (p)))),(1,.c (.ro (.ints .i64 (q)))),(5,.c (.own (10))),(11,.c (.ro (.ints .i64 (p)))),(12,.c (.int .i64 ((p.length:Int)))),(13,.c (.int .i64 ((i:Int))))],[(10,some (.ints 2 .i64 ((ba p q).take i++List.replicate ((ba p q).length - i) 0)))]⟩) (fun i=>i≤p.length) (fun i=>p.length - i) (fun _=>ax))
 | _=>none
def Ck:List (Nat×Ctr):=[]
def vn (p:List Int) (q:List Int):Prop :=
 ((((0:Int)≤(↑(p.length):Int))∧(((↑(p.length):Int)≤(↑(p.length):Int))∧(ag ((↑(p.length):Int).toNat))))∧((∃x0:Nat,((x0≤p.length)∧((p=p)∧((q=q)∧((p=p)∧(((↑(p.length):Int)=(↑(p.length):Int))∧(((0:Int)=(↑x0:Int))∧(List.replicate ((↑(p.length):Int).toNat) (0:Int)=List.take x0 (ba p q)++List.replicate ((ba p q).length - x0) (0:Int)))))))))∧(∀x1:Nat,((x1≤p.length)→(ae (decide ((↑x1:Int)<(↑(p.length):Int))) ((aa (↑x1:Int) (p.length))∧((aa (p.getD ((↑x1:Int).toNat) (0:Int)) (q.length))∧((aa (↑x1:Int) ((List.take x1 (ba p q)++List.replicate ((ba p q).length - x1) (0:Int)).length))∧((af ((↑x1:Int)+(1:Int)))∧(∃x2:Nat,((x2≤p.length)∧((p.length - x2<p.length - x1)∧((p=p)∧((q=q)∧((p=p)∧(((↑(p.length):Int)=(↑(p.length):Int))∧(((↑x1:Int)+(1:Int)=(↑x2:Int))∧(List.set (List.take x1 (ba p q)++List.replicate ((ba p q).length - x1) (0:Int)) ((↑x1:Int).toNat) (q.getD ((p.getD ((↑x1:Int).toNat) (0:Int)).toNat) (0:Int))=List.take x2 (ba p q)++List.replicate ((ba p q).length - x2) (0:Int)))))))))))))) ((List.take x1 (ba p q)++List.replicate ((ba p q).length - x1) (0:Int)=ba p q)∧True))))))
theorem JC (p:List Int) (q:List Int):aS Try.prog (ai Ck) aj (Cj p q) Try.f27 (aM Try.f27) [] [.c (.ints .i64 (p)),.c (.ints .i64 (q))] (pJ p q)=vn p q:=by kernel_rfl
theorem JD (p:List Int) (q:List Int) (Yh:(pJ p q).pre):vn p q:=by
 simp only [pJ,vn,aR,u1,u2,u3,u4,u5,u6,u7,u8,u9,v1,v2,v3,v4,v5,v6,v7,v8,v9,w1,w2,w3,w4,aI,aa,af,ag,aw] at Yh ⊢;obtain ⟨h1,h3⟩:=Yh;have hl:=gz p q
 refine ⟨by omega,⟨0,by omega,rfl,Qa _ _ _ hl⟩,fun i hi=>⟨fun h=>?_,fun h=>?_⟩⟩
 ·have hr:=h3 i (by omega)
  refine ⟨by omega,by omega,by omega,by omega,i+1,by omega,by omega,by omega,?_⟩
  rw [←tp (ba p q) 0 0 i (by omega),fW (by omega)]
 ·exact Ar _ _ _ (by omega)
theorem JE:Fits Try.prog 27 ⟨[],vj⟩:=by
 refine aY (Γ:=ai Ck) aQ Try.func27 fun ds p h hp=>?_
 unfold vj at h;split at h
 ·cases h
  exact ⟨aj,Cj _ _ ,by rw [JC];exact JD _ _  hp⟩
 ·cases h
def pK (t:List (List Int)):Post:=⟨bk t,.c (.bool (bc t)),[]⟩
def vo:List AD→Option Post
 | [.agg [.rows .i64 (t)]]=>some (pK t)
 | _=>none
def Cm:List (Nat×Ctr):=[(44,⟨[],uR⟩)]
def vp (t:List (List Int)):Prop :=
 (((bk t)∧True)∧((bc t=bc t)∧True))
theorem JF (t:List (List Int)):aS Try.prog (ai Cm) aj ax Try.f25 (aM Try.f25) [] [.agg [.rows .i64 (t)]] (pK t)=vp t:=by kernel_rfl
theorem JG (t:List (List Int)) (Yh:(pK t).pre):vp t:=by
 simp only [pK,vp,aR,u1,u2,u3,u4,u5,u6,u7,u8,u9,v1,v2,v3,v4,v5,v6,v7,v8,v9,w1,w2,w3,w4,aI,aa,af,ag,aw] at Yh ⊢;exact Yh
theorem JH:Fits Try.prog 25 ⟨[],vo⟩:=by
 refine aY (Γ:=ai Cm) (aC Jh aQ) Try.func25 fun ds p h hp=>?_
 unfold vo at h;split at h
 ·cases h
  exact ⟨aj,ax,by rw [JF];exact JG _  hp⟩
 ·cases h
def pL (l:List (List Int)) (k:Int):Post:=⟨(l.length:Int)≤9223372036854775807∧(∀r∈l,(r.length:Int)≤9223372036854775807)∧0≤k∧k≤1099511627776,.c (.int .i64 (if k<(l.length:Int)+(am l:Int) then -1 else k - (l.length:Int) - (am l:Int))),[]⟩
def vq:List AD→Option Post
 | [.agg [.rows .i64 (l)],.c (.int .i64 (k))]=>some (pL l k)
 | _=>none
def Cn:List (Nat×Ctr):=[(19,⟨[],vR⟩)]
def vr (l:List (List Int)) (k:Int):Prop :=
 (((((↑(l.length):Int)≤(9223372036854775807:Int))∧((∀(r:List Int),r∈l→(↑(r.length):Int)≤(9223372036854775807:Int))∧(((0:Int)≤k)∧(k≤(1099511627776:Int)))))∧True)∧(ae (decide ((if k<(↑(l.length):Int)+(↑(am l):Int) then (-1:Int) else k - (↑(l.length):Int) - (↑(am l):Int))<(0:Int))) (((-1:Int)=if k<(↑(l.length):Int)+(↑(am l):Int) then (-1:Int) else k - (↑(l.length):Int) - (↑(am l):Int))∧True) (((if k<(↑(l.length):Int)+(↑(am l):Int) then (-1:Int) else k - (↑(l.length):Int) - (↑(am l):Int))=if k<(↑(l.length):Int)+(↑(am l):Int) then (-1:Int) else k - (↑(l.length):Int) - (↑(am l):Int))∧True)))
theorem JI (l:List (List Int)) (k:Int):aS Try.prog (ai Cn) aj ax Try.f5 (aM Try.f5) [] [.agg [.rows .i64 (l)],.c (.int .i64 (k))] (pL l k)=vr l k:=by kernel_rfl
theorem JJ (l:List (List Int)) (k:Int) (Yh:(pL l k).pre):vr l k:=by
 simp only [pL,vr,aR,u1,u2,u3,u4,u5,u6,u7,u8,u9,v1,v2,v3,v4,v5,v6,v7,v8,v9,w1,w2,w3,w4,aI,aa,af,ag,aw] at Yh ⊢;refine ⟨Yh,fun h=>?_,fun h=>trivial⟩
 split at h
 ·rename_i h1;rw [if_pos h1]
 ·omega
theorem JK:Fits Try.prog 5 ⟨[],vq⟩:=by
 refine aY (Γ:=ai Cn) (aC Kj aQ) Try.func5 fun ds p h hp=>?_
 unfold vq at h;split at h
 ·cases h
  exact ⟨aj,ax,by rw [JI];exact JJ _ _  hp⟩
 ·cases h
def pM (l:List (List Int)):Post:=⟨bk l,.agg [.rows 42 2 .i64 (l)],[]⟩
def vt:List AD→Option Post
 | [.agg [.rows .i64 (l)]]=>some (pM l)
 | _=>none
def Co:List (Nat×Ctr):=[(24,⟨[],vT⟩)]
def vu (l:List (List Int)):Prop :=
 (((bk l)∧True)∧(((l=l)∧True)∧True))
theorem JL (l:List (List Int)):aS Try.prog (ai Co) aj ax Try.f7 (aM Try.f7) [] [.agg [.rows .i64 (l)]] (pM l)=vu l:=by kernel_rfl
theorem JM (l:List (List Int)) (Yh:(pM l).pre):vu l:=by
 simp only [pM,vu,aR,u1,u2,u3,u4,u5,u6,u7,u8,u9,v1,v2,v3,v4,v5,v6,v7,v8,v9,w1,w2,w3,w4,aI,aa,af,ag,aw] at Yh ⊢;exact Yh
theorem JN:Fits Try.prog 7 ⟨[],vt⟩:=by
 refine aY (Γ:=ai Co) (aC Km aQ) Try.func7 fun ds p h hp=>?_
 unfold vt at h;split at h
 ·cases h
  exact ⟨aj,ax,by rw [JL];exact JM _  hp⟩
 ·cases h
def pN (a:List (List Int)) (b:List (List Int)):Post:=⟨bk a,.c (.bool (decide (a=b))),[]⟩
def vw:List AD→Option Post
 | [.agg [.rows .i64 (a)],.agg [.rows .i64 (b)]]=>some (pN a b)
 | _=>none
def Cp:List (Nat×Ctr):=[(9,⟨[],qd⟩)]
def vz (a:List (List Int)) (b:List (List Int)):Prop :=
 (((bk a)∧True)∧(ae (!decide (a=b)) ((false=decide (a=b))∧True) ((true=decide (a=b))∧True)))
theorem JO (a:List (List Int)) (b:List (List Int)):aS Try.prog (ai Cp) aj ax Try.f10 (aM Try.f10) [] [.agg [.rows .i64 (a)],.agg [.rows .i64 (b)]] (pN a b)=vz a b:=by kernel_rfl
theorem JP (a:List (List Int)) (b:List (List Int)) (Yh:(pN a b).pre):vz a b:=by
 simp only [pN,vz,aR,u1,u2,u3,u4,u5,u6,u7,u8,u9,v1,v2,v3,v4,v5,v6,v7,v8,v9,w1,w2,w3,w4,aI,aa,af,ag,aw] at Yh ⊢;exact ⟨Yh,fun h=>(decide_eq_false h).symm,fun h=>(decide_eq_true h).symm⟩
theorem JQ:Fits Try.prog 10 ⟨[],vw⟩:=by
 refine aY (Γ:=ai Cp) (aC CU aQ) Try.func10 fun ds p h hp=>?_
 unfold vw at h;split at h
 ·cases h
  exact ⟨aj,ax,by rw [JO];exact JP _ _  hp⟩
 ·cases h
def pO (l:List (List Int)) (k:Int):Post:=⟨l.length≤1048576∧am l≤1048576∧0≤k∧k≤1073741824,.c (.int .i64 (k+(am l:Int))),[.rows 42 2 .i64 (aZ l k)]⟩
def vA:List AD→Option Post
 | [.agg [.rows .i64 (l)],.c (.int .i64 (k))]=>some (pO l k)
 | _=>none
def Cq:List (Nat×Ctr):=[(12,⟨[(0,0)],vZ⟩)]
def vB (l:List (List Int)) (k:Int):Prop :=
 ((((l.length≤(1048576:Nat))∧((am l≤(1048576:Nat))∧(((0:Int)≤k)∧(k≤(1073741824:Int)))))∧((List.map List.length (aZ l k)=List.map List.length l)∧True))∧((k+(↑(am l):Int)=k+(↑(am l):Int))∧((aZ l k=aZ l k)∧True)))
theorem JR (l:List (List Int)) (k:Int):aS Try.prog (ai Cq) aj ax Try.f11 (aM Try.f11) [(0,0)] [.agg [.rows .i64 (l)],.c (.int .i64 (k))] (pO l k)=vB l k:=by kernel_rfl
theorem JS (l:List (List Int)) (k:Int) (Yh:(pO l k).pre):vB l k:=by
 simp only [pO,vB,aR,u1,u2,u3,u4,u5,u6,u7,u8,u9,v1,v2,v3,v4,v5,v6,v7,v8,v9,w1,w2,w3,w4,aI,aa,af,ag,aw] at Yh ⊢;exact ⟨Yh,vW l k⟩
theorem JT:Fits Try.prog 11 ⟨[(0,0)],vA⟩:=by
 refine aY (Γ:=ai Cq) (aC Kt aQ) Try.func11 fun ds p h hp=>?_
 unfold vA at h;split at h
 ·cases h
  exact ⟨aj,ax,by rw [JR];exact JS _ _  hp⟩
 ·cases h
theorem Cr (k:Nat):∀l:List (List Int),(∀r∈l,r.length≤k)→am l≤l.length * k
 | [],_=>by simp [am]
 | r::l,h=>by
  have h1:=h r List.mem_cons_self
  have h2:=Cr k l fun x hx=>h x (List.mem_cons_of_mem _ hx)
  simp only [am,List.map_cons,List.sum_cons,List.length_cons,Nat.add_mul] at *;omega
end Go.Sx
end
