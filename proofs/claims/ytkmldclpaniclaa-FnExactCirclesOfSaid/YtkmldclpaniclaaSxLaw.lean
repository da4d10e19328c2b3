/- SxLaw -/
import Derived.Test.YtkmldclpaniclaaCrcR
import Derived.Test.YtkmldclpaniclaaHolL
import Derived.Test.YtkmldclpaniclaaDeep
import Derived.Test.YtkmldclpaniclaaMpgA
import Derived.Test.YtkmldclpaniclaaRows
import Derived.JoinedOf
import Derived.KernelRfl
import Derived.Test.YtkmldclpaniclaaSxZ
import Derived.ProofKit
import Derived.OpenShut
import Derived.Lib.SmallJoins
import Derived.Deep.Matrix
section
open Go Go.Proofs
namespace Go.Sx
set_option linter.unusedSimpArgs false
set_option linter.unusedVariables false
section
variable {n:Nat} {t A:List (List Int)}
def aL (A:List (List Int)) (K:List Int) (x:Nat):List Int:=A.getD (K.getD x 0).toNat []
structure ClK (n:Nat) (t A:List (List Int)) (K:List Int):Prop where
 ok:KOk n A.length K
 calm:∀x,x<n→∀y,y<n→mY t A K x y
 zero:0≤K.getD 0 0
theorem iu (K:List Int) (x y:Nat):bu t A K x y=gM t x (ap (aL A K x) y):=rfl
theorem sc {K:List Int} (hK:KOk n A.length K) {x:Nat} (hx:x<n) (h:0≤K.getD x 0):aL A K x∈A:=by
 have:=hK.rng x hx
 exact bN A [] _ (by omega)
theorem NP {p q:List Int} {i:Nat} (hi:i<p.length):ap (ba p q) i=ap q (ap p i):=by
 simp only [ap];rw [fW hi]
theorem ClK.mem (G:GrpT n t) (hA:AuOk n A) (hi:∀p∈A,isoL n [t] [t] p) {K:List Int} (h:ClK n t A K) {x y:Nat} (hx:x<n) (hy:y<n) (kx:0≤K.getD x 0) (ky:0≤K.getD y 0) :
  bu t A K x y<n∧0≤K.getD (bu t A K x y) 0∧aL A K (bu t A K x y)=ba (aL A K y) (aL A K x):=by
 have z:=jP G.tb hA h.ok hx hy kx
 rcases h.calm x hx y hy with c | c | c
 ·omega
 ·omega
 ·refine ⟨z.2.2,c.1,?_⟩
  have w:=lw hA h.ok hx hy kx ky
  rw [aL,c.2,c8,fB,Int.toNat_natCast];exact (iL w.1).2
theorem ClK.assoc (G:GrpT n t) (hA:AuOk n A) (hi:∀p∈A,isoL n [t] [t] p) {K:List Int} (h:ClK n t A K) {x y w:Nat} (hx:x<n) (hy:y<n) (hw:w<n) (kx:0≤K.getD x 0) (ky:0≤K.getD y 0) :
  bu t A K (bu t A K x y) w=bu t A K x (bu t A K y w):=by
 obtain ⟨z1,z2,z3⟩:=h.mem G hA hi hx hy kx ky;have px:=hi _ (sc h.ok hx kx)
 have py:=hi _ (sc h.ok hy ky)
 rw [iu K (bu t A K x y) w,z3,NP (by rw [py.len];exact hw),iu K x (bu t A K y w),iu K y w,iu K x y,lE G px hy (eB py hw)]
 exact G.asc x _ _ hx (eB px hy) (eB px (eB py hw))
theorem ClK.can (G:GrpT n t) (hi:∀p∈A,isoL n [t] [t] p) {K:List Int} (h:ClK n t A K) {x y w:Nat} (hx:x<n) (hy:y<n) (hw:w<n) (kx:0≤K.getD x 0) (e:bu t A K x y=bu t A K x w):y=w:=by
 have px:=hi _ (sc h.ok hx kx)
 rw [iu,iu] at e;have e:=G.can x _ _ hx (eB px hy) (eB px hw) e
 have a:=px.rng y hy
 have b:=px.rng w hw
 simp only [ap] at e;exact oN px.nd (by rw [px.len];exact hy) (by rw [px.len];exact hw) (by omega)
def dT (n:Nat) (K:List Int):List Nat:=(List.range n).filter fun x=>decide (0≤K.getD x 0)
theorem d7 {K:List Int} {x:Nat}:x∈dT n K↔x<n∧0≤K.getD x 0:=by simp [dT]
theorem sd (n:Nat) (K:List Int):(dT n K).Nodup:=List.nodup_range.filter _
theorem FH {a b:List Nat} (ha:a.Nodup) (h:∀x∈a,x∈b):a.length≤b.length:=by
 have:=kh (a:=a.map (fun x:Nat=>(x:Int))) (b:=b.map (fun x:Nat=>(x:Int))) (List.pairwise_map.2 (ha.imp fun hne e=>hne (by omega))) (fun x hx=>by
  obtain ⟨y,hy,rfl⟩:=List.mem_map.1 hx;exact List.mem_map.2 ⟨y,h y hy,rfl⟩)
 simpa using this
theorem ClK.inv (G:GrpT n t) (hA:AuOk n A) (hi:∀p∈A,isoL n [t] [t] p) {K:List Int} (h:ClK n t A K) {x:Nat} (hx:x<n) (kx:0≤K.getD x 0):∃y,y<n∧0≤K.getD y 0∧bu t A K x y=0:=by
 refine Classical.byContradiction fun hno=>?_
 have nd:(0::(dT n K).map (bu t A K x)).Nodup:=by
  refine List.nodup_cons.2 ⟨fun hm=>?_,List.pairwise_map.2 (List.Pairwise.imp_of_mem (fun {a b} ha hb hne e=>hne (h.can G hi hx (d7.1 ha).1 (d7.1 hb).1 kx e)) (sd n K))⟩
  obtain ⟨y,hy,e⟩:=List.mem_map.1 hm;exact hno ⟨y,(d7.1 hy).1,(d7.1 hy).2,e⟩
 have:=FH nd (b:=dT n K) (fun y hy=>by
  rcases List.mem_cons.1 hy with rfl | hy
  ·exact d7.2 ⟨G.pos,h.zero⟩
  ·obtain ⟨z,hz,rfl⟩:=List.mem_map.1 hy
   have q:=h.mem G hA hi hx (d7.1 hz).1 kx (d7.1 hz).2
   exact d7.2 ⟨q.1,q.2.1⟩)
 rw [List.length_cons,List.length_map] at this;omega
theorem ClK.dbl (G:GrpT n t) (hA:AuOk n A) (hi:∀p∈A,isoL n [t] [t] p) {K K':List Int} (h:ClK n t A K) (h':ClK n t A K') (hs:cg n K K') {p:Nat} (hp:p<n) (kp:¬ 0≤K.getD p 0) (kp':0≤K'.getD p 0) :
  2 * (dT n K).length≤(dT n K').length:=by
 have up:∀x,x<n→0≤K.getD x 0→0≤K'.getD x 0:=fun x hx k=>by rw [hs x hx k];exact k
 have zz:∀x y,x<n→0≤K.getD x 0→bu t A K' x y=bu t A K x y:=fun x y hx k=>by rw [iu,iu,aL,aL,hs x hx k]
 have nd:(dT n K++(dT n K).map (bu t A K' p)).Nodup:=by
  rw [List.nodup_append];refine ⟨sd n K,List.pairwise_map.2 (List.Pairwise.imp_of_mem (fun {a b} ha hb hne e=>hne (h'.can G hi hp (d7.1 ha).1 (d7.1 hb).1 kp' e)) (sd n K)),fun a ha b hb e=>?_⟩
  obtain ⟨s,hs1,rfl⟩:=List.mem_map.1 hb;obtain ⟨a1,a2⟩:=d7.1 ha;obtain ⟨s1,s2⟩:=d7.1 hs1;obtain ⟨y,y1,y2,y3⟩:=h.inv G hA hi s1 s2;have has:=h'.assoc G hA hi hp s1 y1 kp' (up s s1 s2)
  rw [←e,zz s y s1 s2,y3,zz a y a1 a2,iu K' p 0,iJ G (hi _ (sc h'.ok hp kp')),G.z2 p hp] at has;have:=(h.mem G hA hi a1 y1 a2 y2).2.1
  rw [has] at this;exact kp this
 have:=FH nd (b:=dT n K') (fun x hx=>by
  rcases List.mem_append.1 hx with hx | hx
  ·obtain ⟨x1,x2⟩:=d7.1 hx
   exact d7.2 ⟨x1,up x x1 x2⟩
  ·obtain ⟨s,hs1,rfl⟩:=List.mem_map.1 hx
   obtain ⟨s1,s2⟩:=d7.1 hs1;have q:=h'.mem G hA hi hp s1 kp' (up s s1 s2)
   exact d7.2 ⟨q.1,q.2.1⟩)
 simp only [List.length_append,List.length_map] at this;omega
theorem NQ (n:Nat) (K:List Int):(dT n K).length≤n:=uV n _ (sd n K) fun x hx=>(d7.1 hx).1
theorem FI (G:GrpT n t) (hA:AuOk n A) (hi:∀p∈A,isoL n [t] [t] p):∀(d j:Nat) (K:List Int),ClK n t A K→n<2 ^ (j+1) * (dT n K).length→(d8 t A d K).length≤A.length ^ j
 | 0,j,K,_,_=>Nat.zero_le _
 | d+1,j,K,hK,hj=>by
  rw [d8];by_cases hp:av K=K.length
  ·rw [if_pos hp]
   exact Nat.one_le_pow j _ hA.pos
  ·rw [if_neg hp]
   have hlt:av K<K.length:=by have:=jQ K;omega
   have hneg:=oU K hlt
   have hpn:av K<n:=by rw [←hK.ok.len];exact hlt
   have br:∀i,i<A.length→∀K',cD t A (K.set (av K) (i:Int))=some K'→ClK n t A K'∧2 * (dT n K).length≤(dT n K').length:=fun i hi' K' h=>by
    have hset:=hK.ok.set (av K) (w:=(i:Int)) ⟨by omega,by omega⟩
    have g1:=(jg G.tb hA hK.ok hlt hi' h).1
    have hfu:au (K.set (av K) (i:Int))<t.length+1:=by
     have:=tP (K.set (av K) (i:Int))
     rw [hset.len] at this;rw [G.tb.1];omega
    obtain ⟨f1,f2⟩:=uz G.tb hA _ hset hfu h;have sub:cg n K K':=fun x hx h0=>by
     have ne:x≠av K:=fun e=>by rw [e] at h0;omega
     have e:=eP (x:=x) (w:=(i:Int)) hlt
     rw [if_neg ne] at e;rw [f1 x hx (by rw [e];exact h0),e]
    have kp:0≤K'.getD (av K) 0:=by
     have e:=eP (x:=av K) (w:=(i:Int)) hlt
     rw [if_pos rfl] at e;rw [f1 _ hpn (by rw [e];omega),e];omega
    have c:ClK n t A K':=⟨g1,f2,by rw [sub 0 G.pos hK.zero];exact hK.zero⟩
    exact ⟨c,hK.dbl G hA hi c sub hpn (by omega) kp⟩
   cases j with
   | zero =>
    have none:∀i∈List.range A.length,(match cD t A (K.set (av K) (i:Int)) with | none=>[] | some K'=>d8 t A d K').length≤0:=fun i hi'=>by
     split
     ·exact Nat.le_refl _
     ·rename_i K' h
      obtain ⟨_,b⟩:=br i (by simpa using hi') K' h
      have:=NQ n K'
      simp only [Nat.zero_add,Nat.pow_one] at hj;omega
    exact Nat.le_trans (uY _ 0 _ none) (by omega)
   | succ j =>
    have:=uY (fun i:Nat=>match cD t A (K.set (av K) (i:Int)) with | none=>[] | some K'=>d8 t A d K') (A.length ^ j) (List.range A.length) (fun i hi'=>by
     split
     ·exact Nat.zero_le _
     ·rename_i K' h
      obtain ⟨c,b⟩:=br i (by simpa using hi') K' h
      refine FI G hA hi d j K' c ?_
      have e:2 ^ (j+1+1) * (dT n K).length=2 ^ (j+1) * (2 * (dT n K).length):=by rw [Nat.pow_succ 2 (j+1),Nat.mul_assoc]
      have l:2 ^ (j+1) * (2 * (dT n K).length)≤2 ^ (j+1) * (dT n K').length:=Nat.mul_le_mul_left _ b
      omega)
    rw [List.length_range,Nat.mul_comm,←Nat.pow_succ] at this;exact this
end
theorem FJ:∀(l out:List (List (List Int))),(l.foldl eA out).length=l.length+out.length
 | [],out=>by simp
 | c::l,out=>by
  rw [List.foldl_cons,FJ l,oT];simp;omega
theorem NR {n:Nat} {t:List (List Int)} (G:GrpT n t) (hn:n≤7):(eZ t (bg t)).length≤2401:=by
 have e:t.length=n:=G.tb.1
 have hlen:=pD G hn
 have hpos:=G.pos
 obtain ⟨hA,h0⟩:=mR G.tb G.pos (by omega)
 have hA0:(bg t).getD 0 []=cR n:=by rw [tL G.tb G.pos (by omega)];exact (tK G.tb G.pos).2
 have z0:Z0 n ((List.replicate t.length (-1)).set 0 0):=by rw [e];exact mU
 have get:∀x,x<n→((List.replicate t.length (-1)).set 0 0).getD x 0=if x=0 then 0 else -1:=fun x hx=>by
  rw [eP (by rw [List.length_replicate,e];omega)]
  split
  ·rfl
  ·simp [List.getD,e,hx]
 have cl:ClK n t (bg t) ((List.replicate t.length (-1)).set 0 0):=by
  refine ⟨z0.ok hA,fun x hx y hy=>?_,by rw [get 0 hpos];simp⟩
  by_cases x0:x=0
  ·by_cases y0:y=0
   ·subst x0;subst y0
    have g0:=get 0 hpos
    rw [if_pos rfl] at g0;have z:bu t (bg t) ((List.replicate t.length (-1)).set 0 0) 0 0=0:=by
     rw [iu,aL,g0];have:(0:Int).toNat=0:=rfl
     rw [this,hA0];have:ap (cR n) 0=0:=by rw [ap,cR,eY _ _ _ hpos];rfl
     rw [this,G.z1 0 hpos]
    refine .inr (.inr ⟨by rw [z,g0];omega,by rw [z,g0,c8,g0,h0];rfl⟩)
   ·exact .inr (.inl (by rw [get y hy,if_neg y0];omega))
  ·exact .inl (by rw [get x hx,if_neg x0];omega)
 have one:1≤(dT n ((List.replicate t.length (-1)).set 0 0)).length:=List.length_pos_of_mem (d7.2 ⟨hpos,by rw [get 0 hpos];simp⟩)
 have:=FI G hA (fun p hp=>B6 G hn hp) 12 2 _ cl (by omega)
 rw [eZ,uA,FJ,List.length_map,List.length_nil,Nat.add_zero];have q:(bg t).length ^ 2≤49 ^ 2:=Nat.pow_le_pow_left hlen 2
 omega
def a8 (t:List (List Int)):List (List (List Int))×Int:=(if bc t=true then if t.length≤7 then eZ t (bg t) else [] else [],if bc t=true then if t.length≤7 then 0 else 3 else 1)
theorem nX {t:List (List Int)} (h:bc t=false):a8 t=([],1):=by simp [a8,h]
theorem nY {t:List (List Int)} (h:bc t=true) (h7:7<t.length):a8 t=([],3):=by
 simp [a8,h,show ¬ t.length≤7 by omega]
theorem nZ {t:List (List Int)} (h:bc t=true) (h7:t.length≤7):a8 t=(eZ t (bg t),0):=by simp [a8,h,h7]
def se (t:List (List Int)):Post:=⟨bk t,.tup [.inl (.tr [22,42,2] (.r3 .i64 ((a8 t).1))),.inl (.int .i64 ((a8 t).2))],[]⟩
def zd:List AD→Option Post
 | [.agg [.rows .i64 (t)]]=>some (se t)
 | _=>none
def FK:List (Nat×Ctr):=[(25,⟨[],vo⟩),(37,⟨[],uw⟩)]
def ze (t:List (List Int)):Prop :=
 (((bk t)∧True)∧(ae (!bc t) (((FC.len (FC.r3 IntKind.i64 ((a8 t).1))=(0:Nat))∧(((1:Int)=(a8 t).2)∧True))∧True) (ae (decide ((7:Int)<(↑(t.length):Int))) (((FC.len (FC.r3 IntKind.i64 ((a8 t).1))=(0:Nat))∧(((3:Int)=(a8 t).2)∧True))∧True) ((((bc t=true)∧(t.length≤(7:Nat)))∧True)∧(((cM (b9 t (bg t) (9:Nat) ([]:List (List Int)) ([]:List (List (List Int))))=(a8 t).1)∧(((0:Int)=(a8 t).2)∧True))∧True)))))
theorem NS (t:List (List Int)):aS Try.prog (ai FK) aj ax Try.f15 (aM Try.f15) [] [.agg [.rows .i64 (t)]] (se t)=ze t:=by kernel_rfl
theorem NT (t:List (List Int)) (Yh:(se t).pre):ze t:=by
 simp only [se,ze,aR,u1,u2,u3,u4,u5,u6,u7,u8,u9,v1,v2,v3,v4,v5,v6,v7,v8,v9,w1,w2,w3,w4,aI,aa,af,ag,aw] at Yh ⊢;refine ⟨Yh,fun h=>by rw [nX h];exact ⟨rfl,rfl⟩,fun h=>⟨fun h7=>by rw [nY h (by omega)];exact ⟨rfl,rfl⟩,fun h7=>⟨⟨h,by omega⟩,?_⟩⟩⟩
 rw [nZ h (by omega),IN (pC h) (by omega)]
 exact ⟨rfl,rfl⟩
theorem NU:Fits Try.prog 15 ⟨[],zd⟩:=by
 refine aY (Γ:=ai FK) (aC JH (aC Ix aQ)) Try.func15 fun ds p h hp=>?_
 unfold zd at h;split at h
 ·cases h
  exact ⟨aj,ax,by rw [NS];exact NT _  hp⟩
 ·cases h
def sf (t:List (List Int)):Post:=⟨bk t,.c (.int .i64 ((a8 t).2)),[]⟩
def zf:List AD→Option Post
 | [.agg [.rows .i64 (t)]]=>some (sf t)
 | _=>none
def FL:List (Nat×Ctr):=[(20,⟨[],uT⟩)]
def zg (t:List (List Int)):Prop :=
 (((bk t)∧True)∧(ae (!bc t) (((1:Int)=(a8 t).2)∧True) (ae (decide ((7:Int)<(↑(t.length):Int))) (((3:Int)=(a8 t).2)∧True) (((0:Int)=(a8 t).2)∧True))))
theorem NV (t:List (List Int)):aS Try.prog (ai FL) aj ax Try.f35 (aM Try.f35) [] [.agg [.rows .i64 (t)]] (sf t)=zg t:=by kernel_rfl
theorem NW (t:List (List Int)) (Yh:(sf t).pre):zg t:=by
 simp only [sf,zg,aR,u1,u2,u3,u4,u5,u6,u7,u8,u9,v1,v2,v3,v4,v5,v6,v7,v8,v9,w1,w2,w3,w4,aI,aa,af,ag,aw] at Yh ⊢;exact ⟨Yh,fun h=>by rw [nX h],fun h=>⟨fun h7=>by rw [nY h (by omega)],fun h7=>by rw [nZ h (by omega)]⟩⟩
theorem NX:Fits Try.prog 35 ⟨[],zf⟩:=by
 refine aY (Γ:=ai FL) (aC Jk aQ) Try.func35 fun ds p h hp=>?_
 unfold zf at h;split at h
 ·cases h
  exact ⟨aj,ax,by rw [NV];exact NW _  hp⟩
 ·cases h
def sg (t:List (List Int)):Post:=⟨bk t,.tup [.inl (.ro (.r3 .i64 ((a8 t).1))),.inl (.int .i64 ((a8 t).2))],[]⟩
def zh:List AD→Option Post
 | [.agg [.rows .i64 (t)]]=>some (sg t)
 | _=>none
def FM:List (Nat×Ctr):=[(35,⟨[],zf⟩),(36,⟨[],wT⟩)]
def zi (t:List (List Int)):Prop :=
 (((bk t)∧True)∧(ae ((a8 t).2 != (0:Int)) (((FC.len (FC.r3 IntKind.i64 ((a8 t).1))=(0:Nat))∧(((a8 t).2=(a8 t).2)∧True))∧True) ((((cf t=true)∧((AuOk (t.length) (bg t))∧(((bg t).length≤(100:Nat))∧(t.length≤(7:Nat)))))∧True)∧(((eZ t (bg t)=(a8 t).1)∧(((0:Int)=(a8 t).2)∧True))∧True))))
theorem NY (t:List (List Int)):aS Try.prog (ai FM) aj ax Try.f14 (aM Try.f14) [] [.agg [.rows .i64 (t)]] (sg t)=zi t:=by kernel_rfl
theorem NZ (t:List (List Int)) (Yh:(sg t).pre):zi t:=by
 simp only [sg,zi,aR,u1,u2,u3,u4,u5,u6,u7,u8,u9,v1,v2,v3,v4,v5,v6,v7,v8,v9,w1,w2,w3,w4,aI,aa,af,ag,aw] at Yh ⊢;refine ⟨Yh,fun h=>?_,fun h=>?_⟩
 ·cases hg:bc t with
  | false=>rw [nX hg];rfl
  | true =>
   by_cases h7:7<t.length
   ·rw [nY hg h7];rfl
   ·rw [nZ hg (by omega)] at h;exact absurd rfl h
 ·cases hg:bc t with
  | false=>rw [nX hg] at h;exact absurd h (by decide)
  | true =>
   by_cases h7:7<t.length
   ·rw [nY hg h7] at h;exact absurd h (by decide)
   ·have G:=pC hg
    have hA:=pD G (by omega)
    refine ⟨⟨wV hg,(mR G.tb G.pos (by omega)).1,by omega,by omega⟩,?_⟩
    rw [nZ hg (by omega)]
    exact ⟨rfl,rfl⟩
theorem N0:Fits Try.prog 14 ⟨[],zh⟩:=by
 refine aY (Γ:=ai FM) (aC NX (aC LC aQ)) Try.func14 fun ds p h hp=>?_
 unfold zh at h;split at h
 ·cases h
  exact ⟨aj,ax,by rw [NY];exact NZ _  hp⟩
 ·cases h
theorem N1 {n:Nat} {t:List (List Int)} (G:GrpT n t) (hn:n≤7):∀c∈eZ t (bg t),bi n c:=by
 have hA:=pD G hn
 obtain ⟨h1,h2⟩:=mR G.tb G.pos (by omega)
 exact (HX G.tb G.pos (by omega) h1 h2).2
theorem N2 {n:Nat} {c:List (List Int)} (h:bi n c):am c≤n * n:=by
 have:=Cr n c fun r hr=>by
  obtain ⟨i,hi,rfl⟩:=List.getElem_of_mem hr;have:=(h.2 i (by rw [←h.1];exact hi)).1
  rw [bU c [] i hi] at this;omega
 rw [h.1] at this;exact this
theorem N3 {n:Nat} {c:List (List Int)} (h:bi n c) (hn:n≤12):bk c:=⟨by rw [h.1];omega,fun r hr=>by
 obtain ⟨i,hi,rfl⟩:=List.getElem_of_mem hr;have:=(h.2 i (by rw [←h.1];exact hi)).1
 rw [bU c [] i hi] at this;omega⟩
theorem FN {α:Type} (c:α→Nat) (k:Nat):∀l:List α,(∀x∈l,c x≤k)→cN c l≤l.length * k
 | [],_=>by simp [cN]
 | x::l,h=>by
  have h1:=h x List.mem_cons_self
  have h2:=FN c k l fun y hy=>h y (List.mem_cons_of_mem _ hy)
  simp only [cN,List.map_cons,List.sum_cons,List.length_cons,Nat.add_mul] at *;omega
theorem N4 (t:List (List Int)):jR (a8 t).1∧iH (a8 t).1∧bm (a8 t).1≤1048576:=by
 have nil:jR ([]:List (List (List Int)))∧iH ([]:List (List (List Int)))∧bm ([]:List (List (List Int)))≤1048576:=⟨⟨by simp,by simp⟩,⟨by simp,by simp⟩,by simp [bm,cN]⟩
 cases hg:bc t with
 | false=>rw [nX hg];exact nil
 | true =>
  by_cases h7:7<t.length
  ·rw [nY hg h7];exact nil
  ·rw [nZ hg (by omega)]
   have G:=pC hg
   have hl:=NR G (by omega)
   have hr:=N1 G (by omega)
   have hs:=FN am 49 (eZ t (bg t)) fun c hc=>by
    have:=N2 (hr c hc)
    have:t.length * t.length≤7 * 7:=Nat.mul_le_mul (by omega) (by omega)
    omega
   refine ⟨⟨by simp only;omega,fun c hc=>N3 (hr c hc) (by omega)⟩,⟨by simp only;omega,fun c hc=>by rw [(hr c hc).1];omega⟩,?_⟩
   show cN am (eZ t (bg t))≤1048576
   omega
def sh (t:List (List Int)):Post:=⟨(t.length:Int)≤9223372036854775807∧∀r∈t,(r.length:Int)≤9223372036854775807,.c (.bool (true)),[]⟩
def zj:List AD→Option Post
 | [.agg [.rows .i64 (t)]]=>some (sh t)
 | _=>none
def FO:List (Nat×Ctr):=[(5,⟨[],vq⟩),(7,⟨[],vt⟩),(10,⟨[],vw⟩),(11,⟨[(0,0)],vA⟩),(16,⟨[],uC⟩),(17,⟨[(0,0)],uL⟩),(18,⟨[],uN⟩),(14,⟨[],zh⟩),(15,⟨[],zd⟩)]
def zk (t:List (List Int)):Prop :=
 (((((↑(t.length):Int)≤(9223372036854775807:Int))∧((∀(r:List Int),r∈t→(↑(r.length):Int)≤(9223372036854775807:Int))∧(((0:Int)≤(1048576:Int))∧((1048576:Int)≤(1099511627776:Int)))))∧True)∧(ae (decide ((if (1048576:Int)<(↑(t.length):Int)+(↑(am t):Int) then (-1:Int) else (1048576:Int) - (↑(t.length):Int) - (↑(am t):Int))<(0:Int))) ((true=true)∧True) (((bk t)∧True)∧(((bk t)∧True)∧(((bk t)∧True)∧(((bk t)∧True)∧(((jR ((a8 t).1))∧True)∧(ae (!decide ((a8 t).1=(a8 t).1)) ((false=true)∧True) (ae ((a8 t).2 != (a8 t).2) ((false=true)∧True) (((bk t)∧True)∧(((bk t)∧True)∧(ae (!decide (t=t)) ((false=true)∧True) ((((t.length≤(1048576:Nat))∧((am t≤(1048576:Nat))∧(((0:Int)≤(1:Int))∧((1:Int)≤(1073741824:Int)))))∧((List.map List.length (aZ t (1:Int))=List.map List.length t)∧True))∧(ae (decide ((1:Int)+(↑(am t):Int)<(0:Int))) ((false=true)∧True) (((jR ((a8 t).1))∧True)∧(ae (!decide ((a8 t).1=(a8 t).1)) ((false=true)∧True) (ae ((a8 t).2 != (a8 t).2) ((false=true)∧True) ((((iH ((a8 t).1))∧((bm ((a8 t).1)≤(1048576:Nat))∧(((0:Int)≤(1:Int))∧((1:Int)≤(536870912:Int)))))∧((FC.len (FC.r3 IntKind.i64 (bv ((a8 t).1) (1:Int)))=FC.len (FC.r3 IntKind.i64 ((a8 t).1)))∧True))∧((((iH (bv ((a8 t).1) (1:Int)))∧((bm (bv ((a8 t).1) (1:Int))≤(1048576:Nat))∧(((0:Int)≤(1:Int))∧((1:Int)≤(536870912:Int)))))∧True) ∧
 (ae (decide ((if bv ((a8 t).1) (1:Int)=bv (bv ((a8 t).1) (1:Int)) (1:Int) then (1:Int)+(↑(bm (bv ((a8 t).1) (1:Int))):Int) else (-1:Int))<(0:Int))) ((false=true)∧True) (ae ((if bv ((a8 t).1) (1:Int)=bv (bv ((a8 t).1) (1:Int)) (1:Int) then (1:Int)+(↑(bm (bv ((a8 t).1) (1:Int))):Int) else (-1:Int)) != (1:Int)+(↑(bm ((a8 t).1)):Int)) ((false=true)∧True) (((bk t)∧True)∧(((bk t)∧True)∧(((jR ((a8 t).1))∧True)∧(ae (!decide ((a8 t).1=(a8 t).1)) ((false=true)∧True) (ae ((a8 t).2 != (a8 t).2) ((false=true)∧True) ((((iH (bv ((a8 t).1) (1:Int)))∧((bm (bv ((a8 t).1) (1:Int))≤(1048576:Nat))∧(((0:Int)≤(1:Int))∧((1:Int)≤(536870912:Int)))))∧True)∧(ae (decide ((if bv ((a8 t).1) (1:Int)=bv (bv ((a8 t).1) (1:Int)) (1:Int) then (1:Int)+(↑(bm (bv ((a8 t).1) (1:Int))):Int) else (-1:Int))<(0:Int))) ((false=true)∧True) (ae ((if bv ((a8 t).1) (1:Int)=bv (bv ((a8 t).1) (1:Int)) (1:Int) then (1:Int)+(↑(bm (bv ((a8 t).1) (1:Int))):Int) else (-1:Int)) != (1:Int)+(↑(bm ((a8 t).1)):Int)) ((false=true)∧True) ((true=true)∧True))))))))))))))))))))))))))))))
theorem N5 (t:List (List Int)):aS Try.prog (ai FO) aj ax Try.f4 (aM Try.f4) [] [.agg [.rows .i64 (t)]] (sh t)=zk t:=by kernel_rfl
theorem N6 (t:List (List Int)) (Yh:(sh t).pre):zk t:=by
 simp only [sh,zk,aR,true_and,and_true,decide_eq_true_eq,decide_eq_false_iff_not,bne_iff_ne,beq_iff_eq,bne_eq_false_iff_eq,beq_eq_false_iff_ne,Bool.not_eq_true,Bool.not_eq_false,Bool.not_true,Bool.not_false,Bool.not_eq_eq_eq_not,Int.toNat_natCast,List.length_append,List.length_take,List.length_replicate,List.length_set,List.length_map,List.length_drop,List.length_nil,List.length_cons,aI,aa,af,ag,aw,FC.len] at Yh ⊢;obtain ⟨a1,a2⟩:=Yh;refine ⟨⟨a1,a2,by omega,by omega⟩,fun _=>trivial,fun h=>?_⟩
 obtain ⟨e1,e2,e3⟩:=Kx h;obtain ⟨c1,c3,c4⟩:=N4 t;have c2:=IY c3 1
 have c5:¬ (1+(am t:Int)<0):=by omega
 have c6:¬ (1+(bm (a8 t).1:Int)<0):=by omega
 simp [e1,e2,e3,c1,c2,c3,c4,c5,c6,jT,vW,qf,vY,uG,IV,IW]
theorem N7:Fits Try.prog 4 ⟨[],zj⟩:=by
 refine aY (Γ:=ai FO) (aC JK (aC JN (aC JQ (aC JT (aC IS (aC I8 (aC Jb (aC N0 (aC NU aQ))))))))) Try.func4 fun ds p h hp=>?_
 unfold zj at h;split at h
 ·cases h
  exact ⟨aj,ax,by rw [N5];exact N6 _  hp⟩
 ·cases h
end Go.Sx
end
section
namespace Go.Proofs.Ytkmldclpaniclaa
theorem kL {x y:Bool} (h:x=true) (k:y=true):(x&&y)=true:=by rw [h,k];rfl
set_option maxRecDepth 10000000 in
def si:{ l:List Char // Try.prog.initOrder=String.ofList l }:=⟨_,rfl⟩
theorem N8:Try.prog.initOrder.toList=si.1:=(congrArg String.toList si.2).trans String.toList_ofList
theorem sj:∃rest,behindMainWord (wordsSigns Try.prog.initOrder.toList)=['c','u','t']::rest:=by
 rw [N8];have h:(behindMainWord (wordsSigns si.1)).head?=some ['c','u','t']:=by kernel_rfl
 cases hb:behindMainWord (wordsSigns si.1) with
 | nil=>rw [hb] at h;cases h
 | cons x y=>rw [hb] at h;cases h;exact ⟨y,rfl⟩
theorem FP (rest:List (List Char)):stripLifts liftWords (['c','u','t']::rest)=([],['c','u','t']::rest):=by rfl
theorem N9:Try.prog.headLifts=[]:=by
 obtain ⟨rest,h⟩:=sj;unfold Program.headLifts;rw [h,FP];rfl
theorem Oa:Try.prog.laysLater=false:=by kernel_rfl
theorem Oc:Try.prog.bearsReflect=false:=by kernel_rfl
theorem Od:Try.prog.doorRows=[]:=by kernel_rfl
theorem Oe:Try.prog.doorFits []=true:=by
 unfold Program.doorFits;rw [Od];rfl
theorem Of (P:Program) (rest:List (List Char)) (h:behindMainWord (wordsSigns P.initOrder.toList)=['c','u','t']::rest) (h1:P.laysLater=false) (h2:P.bearsReflect=false) (h3:P.doorFits []=true):P.mayEnter=true:=by
 unfold Program.mayEnter;rw [h];simp only [FP,h1,h2,h3];simp
theorem Og (P:Program) (rest:List (List Char)) (h:behindMainWord (wordsSigns P.initOrder.toList)=['c','u','t']::rest) (h1:P.headLifts=[]):(false == P.liftsFinal)=true:=by
 unfold Program.liftsFinal;rw [h,h1];rfl
theorem Oh (P:Program) (rest:List (List Char)) (h:behindMainWord (wordsSigns P.initOrder.toList)=['c','u','t']::rest):(P.make == some Make.cut)=true:=by
 have e1:(['c','u','t'] == "gc".toList)=false:=rfl
 have e2:(['c','u','t'] == "spec".toList)=false:=rfl
 have e3:(['c','u','t'] == "cut".toList)=true:=rfl
 unfold Program.make;rw [h];simp only [e1,e2,e3,Bool.or_false,Bool.true_or,Bool.false_eq_true,if_true,if_false];rfl
theorem Oi:Try.prog.mayEnter=true:=by
 obtain ⟨rest,h⟩:=sj;exact Of _ rest h Oa Oc Oe
theorem Oj:(false == Try.prog.liftsFinal)=true:=by
 obtain ⟨rest,h⟩:=sj;exact Og _ rest h N9
theorem Ok:(Try.prog.make == some Make.cut)=true:=by
 obtain ⟨rest,h⟩:=sj;exact Oh _ rest h
end Go.Proofs.Ytkmldclpaniclaa
end
section
namespace Go.Sx
set_option linter.unusedSimpArgs false
set_option linter.unusedVariables false
open Go.ChangeShapes Go.WideShapes Go.ChangeAt Go.RowKit Go.ChangeMaps Go.Deep
def FQ (n:Int):Prop:=-9223372036854775808≤n∧n≤9223372036854775807
theorem wf_i64' {n:Int} (h:(Lit.int .i64 n).wf=true):FQ n:=by
 simp only [Lit.wf,Bool.and_eq_true,decide_eq_true_eq] at h;exact h
theorem Ol:maxLen=9223372036854775807:=rfl
section
variable {H:Type} {enc:TypeId×Value→H} {P:Program} {W:World}
def FR (P:Program) (W:World) (t:TypeId) (v:Value) (d:FC):Prop:=v.oneCell'=true∧aX W v d
theorem Om {t e q:TypeId} {fuel:Nat} {v:Value} {x:DataW H×List MemPlace} (ht:P.underlying t=some (.slice e)) (he:P.underlying e=some (.slice q)) (hq:P.underlying q=some (.int .i64))
  (ce:P.cellsOf e=1) (cq:P.cellsOf q=1) (h:DataW.trod enc P W 0 (fun _=>true) true fuel t [v]=some x) :
  ∃l:List (List Int),l.length≤maxLen∧(∀r∈l,r.length≤maxLen∧∀n∈r,FQ n)∧FR P W t v (.rows .i64 l):=by
 rcases open_int_rows ht he hq ce cq h with ⟨h1,_⟩ | ⟨a,len,cap,A,L,Cc,Z,h1,_,hl,hm,_,hrow⟩
 ·simp only [List.cons.injEq,and_true] at h1
  subst h1;exact ⟨[],Nat.zero_le _,by simp,rfl,none,0,rfl,Nat.le_refl _,fun h=>by simp at h⟩
 ·simp only [List.cons.injEq,and_true] at h1
  subst h1;refine ⟨(List.range len).map fun r=>(Z r).take (L r),by simp;omega,?_,rfl,some a,cap,by simp,by simpa using hl,fun hpos=>?_⟩
  ·intro r hr
   simp only [List.mem_map,List.mem_range] at hr;obtain ⟨j,hj,rfl⟩:=hr;obtain ⟨_,k2,k3,k4,k5,_⟩:=hrow j (by omega)
   exact ⟨by simp;omega,fun n hn=>wf_i64' (k5 n (List.mem_of_mem_take hn))⟩
  ·simp only [List.length_map,List.length_range] at hpos
   obtain ⟨b,off,spot⟩:=a;have hs:spot=none:=by simpa [Addr.add] using World.cell?_spot (hrow 0 (by omega)).1
   subst hs;refine ⟨b,off,rfl,fun i hi=>?_⟩
   simp only [List.length_map,List.length_range] at hi;obtain ⟨k1,k2,k3,k4,k5,k6,k7⟩:=hrow i (by omega)
   refine ⟨_,by rw [←add_plain];exact k1,?_⟩
   have hget:((List.range len).map fun r=>(Z r).take (L r)).getD i []=(Z i).take (L i):=by
    simp [List.getD_eq_getElem?_getD,hi]
   show fg W .i64 _ _
   rw [hget];have hlen:((Z i).take (L i)).length=L i:=by simp;omega
   refine ⟨A i,Cc i,by rw [hlen],by rw [hlen];exact k2,fun hp=>?_⟩
   rw [hlen] at hp;cases hA:A i with
   | none=>have:=k6 hA;omega
   | some a' =>
    obtain ⟨_,hc⟩:=k7 a' hA;obtain ⟨b',off',spot'⟩:=a';have hs:spot'=none:=by simpa [Addr.add] using World.cell?_spot (hc 0 (by omega))
    subst hs;refine ⟨b',off',rfl,fun j hj=>?_⟩
    rw [hlen] at hj;refine ⟨_,by rw [←add_plain];exact hc j (by omega),?_⟩
    simp [List.getD_eq_getElem?_getD,List.getElem?_take,hj]
theorem On {t:TypeId} {v0:Value} {t0:TypeId} {d0:FC} (h0:FR P W t0 v0 d0) (i:Nat):bT P W [] [] [] i (.agg [d0]) (.agg #[v0]) :=
 ⟨_,rfl,rfl,fun j d hj=>match j,hj with
  | 0,hj=>by cases hj;exact ⟨v0,rfl,h0.1,h0.2⟩
  | j+1,hj=>by simp at hj⟩
open Go.Joins in
theorem Oo {r:Reach} {b0:Nat} {t:TypeId} {f0:Field} {v:Value} {d:DataW H} {p:List MemPlace} (hs:P.underlying t=some (.struct #[f0])) (hone:oneCellFields P #[f0]=true) (hC:P.cellsOf t=1)
  (hv:Value.okWide P W r b0 t v) (h:DataW.Trod enc P W 0 (fun _=>true) true t v d p) :
  ∃(v0:Value) (y0:DataW H×List MemPlace) (n:Nat),v=.agg #[v0]∧d=.agg [y0.1]∧p=y0.2∧DataW.trod enc P W 0 (fun _=>true) true n f0.type [v0]=some y0:=by
 obtain ⟨cs,rfl,hsz⟩:=okWide_struct hs hv;have h1:cs.size=1:=hsz.trans hC
 obtain ⟨c0,rfl⟩:∃c0,cs=#[c0]:=by
  cases cs with
  | mk l=>match l,h1 with
   | [c],_=>exact ⟨c,rfl⟩
 obtain ⟨fuel,hf⟩:=h;obtain ⟨y0,n,hx,_,h0⟩:=trod_struct1 hs hf;obtain ⟨o0,k0⟩:=hone_of hone 0 f0 rfl;simp only [Prod.mk.injEq] at hx;exact ⟨c0,y0,n,rfl,hx.1,hx.2,by simpa [Value.cells,o0,k0] using h0⟩
theorem FS (hl:laidOutB P=true) {W':World} (hb:Below W.heap.size W W'):∀{ts:List TypeId} {vs:List Value} {ds:List (DataW H)} {p:List MemPlace},(∀t∈ts,P.readableRec t=true∧t<P.types.size) →
  DataW.TrodAll enc P W 0 (fun _=>true) true ts vs ds p→(∀x∈p,x.block<W.heap.size)→DataW.TrodAll enc P W' 0 (fun b=>decide (b<W.heap.size)) true ts vs ds p
 | [],[],[],p,_,h,_=>h
 | t::ts,v::vs,d::ds,p,ht,h,hlt=>by
  obtain ⟨p1,p2,h1,h2,rfl⟩:=h;exact ⟨p1,p2,Below.trod hl (ht t (by simp)).1 (ht t (by simp)).2 h1 hb (fun x hx=>hlt x (by simp [hx])),FS hl hb (fun t' h'=>ht t' (by simp [h'])) h2 (fun x hx=>hlt x (by simp [hx])),rfl⟩
 | [],[],_::_,_,_,h,_=>h.elim
 | [],_::_,[],_,_,h,_=>h.elim
 | [],_::_,_::_,_,_,h,_=>h.elim
 | _::_,[],[],_,_,h,_=>h.elim
 | _::_,[],_::_,_,_,h,_=>h.elim
 | _::_,_::_,[],_,_,h,_=>h.elim
theorem FT {W:World} {base:Nat} {sp:Nat→Bool} {hd:Bool}:∀{ts:List TypeId} {vs:List Value} {ds:List (DataW H)} {p:List MemPlace},DataW.TrodAll enc P W base sp hd ts vs ds p→vs.length=ts.length∧ds.length=ts.length
 | [],[],[],_,_=>⟨rfl,rfl⟩
 | t::ts,v::vs,d::ds,p,h=>by
  obtain ⟨p1,p2,_,h2,_⟩:=h;have:=FT h2
  simp [this.1,this.2]
 | [],[],_::_,_,h=>h.elim
 | [],_::_,[],_,h=>h.elim
 | [],_::_,_::_,_,h=>h.elim
 | _::_,[],[],_,h=>h.elim
 | _::_,[],_::_,_,h=>h.elim
 | _::_,_::_,[],_,h=>h.elim
end
theorem Oq {C:Checked} {os:Os} {H:Type} {enc:TypeId×Value→H} {f:FuncId} {fn:Func} {s:ChangeSpec} {conds:List PathCond} {jE handsOn:Bool} {tb:TypeId}
  (own:ownKnob C.prog.godebug=none) (started:os.Started) (noInit:C.prog.inits.idxOf? f=none) (hfn:C.prog.funcs[f]?=some fn) (hlaid:laidOutB C.prog=true)
  (hvars:s.vars=[]) (hrd:∀t∈fn.params.toList,C.prog.readableRec t=true∧t<C.prog.types.size) (hres:fn.resultTypes=#[tb]) (htb:C.prog.underlying tb=some .bool)
  (hspec:∀ds:List (DataW H),ds.length=fn.params.toList.length→s.fn H ds={ results:=[.lit (.bool true)],args:=ds,vars:=[] })
  (witness:∃(w:World) (tape:Tape) (i:Input),w.os=os∧(w.forCall tape i).Shaped C.prog∧i.vars=[]∧Input.okWide C.prog (w.forCall tape i) .any w.heap.size f i ∧
   s.pre6 enc C.prog fn conds false (w.forCall tape i).memory i.args∧({}:Assume).holds C.prog (lone (Frame.enter C.prog f i.args .normal) [] (w.forCall tape i)))
  {ct:List AD→Option Post} (fits:Fits C.prog f ⟨[],ct⟩)
  (hopen:∀(W:World) (base:Nat) (vs:List Value) (ds:List (DataW H)) (p:List MemPlace),DataW.TrodAll enc C.prog W 0 (fun _=>true) true fn.params.toList vs ds p →
   (∀(j:Nat) t v,fn.params[j]?=some t→vs[j]?=some v→Value.okWide C.prog W .any base t v) →
   ∃(ads:List AD) (pre:Prop),ct ads=some ⟨pre,.c (.bool true),[]⟩∧pre∧vs.length=ads.length∧∀(i:Nat) (d:AD),ads[i]?=some d→∃v,vs[i]?=some v∧bT C.prog W [] [] [] i d v) :
  ReturnsInHanded {} C os f .any (s.pre6 enc C.prog fn conds false) (s.post enc C.prog fn false jE handsOn false):=by
 refine returnsInHanded_of_change own started noInit hfn witness ?_
 intro W base args ds gs before hval hW _ _
 have hW':=hW
 obtain ⟨p,q,hA,hV,rfl,hfz,hnd⟩:=hW;rw [hvars] at hV;obtain ⟨rfl,rfl⟩:=trodVars_none hV;obtain ⟨ads,pre,h1,h2,h3,h4⟩:=hopen W base args.toList ds p hA (fun j t v ht hv=>hval j t v ht (by simpa using hv))
 have hrun:=fits.run W W args.toList ads _ [] [] h1 h2 h3 rfl rfl rfl (by simp) (by simp) (by simp) (fun q u hq=>⟨hq,by simp⟩) h4
 refine hrun.mono fun e W' ⟨v,ms',img,wG,he,haft,hms,_,_,hret⟩=>?_
 subst he;have hv:v=.bool true:=hret.val
 subst hv;have hB:Below W.heap.size W W':=haft.below
 have hlt:∀x∈p,x.block<W.heap.size:=fun x hx=>by simpa using hW'.lt x (by simp [hx])
 have hsp:=hspec ds (FT hA).2
 refine ⟨_,rfl,ds,[],p++[],[],p,[],hW',?_,?_,?_,hB.frame _,fun h=>by cases h⟩
 ·rw [List.append_nil,hsp,hres]
  exact trodAll_cons_mk (shut_bool htb _) trodAll_mk0
 ·rw [List.append_nil,hsp]
  exact FS hlaid hB hrd hA hlt
 ·rw [List.append_nil,hsp,hvars]
  rfl
end Go.Sx
end
