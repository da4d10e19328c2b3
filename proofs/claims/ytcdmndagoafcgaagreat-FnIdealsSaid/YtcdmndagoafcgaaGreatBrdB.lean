/- BrdB -/
import Derived.Test.YtcdmndagoafcgaaGreatCirM
import Derived.Test.YtcdmndagoafcgaaGreatCirP
import Derived.Test.YtcdmndagoafcgaaGreatIdl
open Go Go.Proofs
namespace Go.Sx
set_option linter.unusedSimpArgs false
set_option linter.unusedVariables false
def bP (l:List Int):List Int:=0::l.map fun x=>x+1
def ax (Yg:List Int) (a h Yi:Int):Dr :=
 ((bI (1+ay Yg a h Yi)).getD (ay Yg (av Yg.length a Yi) (az h Yi) ((bI (1+ay Yg a h Yi)).length:Int)).toNat [],
  av Yg.length (av Yg.length a Yi) ((bI (1+ay Yg a h Yi)).length:Int),az (az h Yi) ((bI (1+ay Yg a h Yi)).length:Int))
def bO (Yg:List Int) (d:Dr):List Int×Int×Int:=bz Yg (av Yg.length d.2.1 2) (az d.2.2 2) ((d.1.length:Int) - 1).toNat
def iR (Yg:List Int) (d:Dr):Dr :=
 if 1<(d.1.length:Int) then
  if ay Yg d.2.1 d.2.2 2=0 then (cV d.1 (bP (bO Yg d).1) d.1.length,(bO Yg d).2) else (d.1,av Yg.length d.2.1 2,az d.2.2 2)
 else d
def dG (Yg:List Int) (a h Yi:Int):Dr:=iR Yg (ax Yg a h Yi)
def mZ (Yg:List Int) (m:Nat) (d:Dr):Prop:=1≤d.1.length∧d.1.length≤m∧ba d.1.length d.1∧0≤d.2.1∧d.2.1≤(Yg.length:Int)
theorem jr {n:Nat} {t:List (List Int)} (h:ba n t):gL (n:Int) t:=⟨by rw [h.1],fun i hi=>by
 have e:=h.1
 have r:=h.2 i (by omega)
 refine ⟨by rw [r.1],fun j hj=>?_⟩
 have v:=r.2 j (by omega)
 have e2:en t i j=(t.getD i []).getD j 0:=rfl
 omega⟩
theorem Nm {n:Nat} {t:List (List Int)} (h:gL (n:Int) t):ba n t:=by
 have e:=h.1
 refine ⟨by omega,fun i hi=>?_⟩
 have r:=h.2 i (by omega)
 refine ⟨by omega,fun j hj=>?_⟩
 have v:=r.2 j (by omega)
 have e2:en t i j=(t.getD i []).getD j 0:=rfl
 omega
theorem m6 {Yg:List Int} (hb:bD Yg) {a h Yi:Int} (h0:0≤a) (h1:a≤(Yg.length:Int)) (h2:1≤Yi) (h3:Yi≤8):mZ Yg Yi.toNat (ax Yg a h Yi)∧(ax Yg a h Yi).1∈bI (1+ay Yg a h Yi)∧0≤ay Yg (av Yg.length a Yi) (az h Yi) ((bI (1+ay Yg a h Yi)).length:Int)∧ay Yg (av Yg.length a Yi) (az h Yi) ((bI (1+ay Yg a h Yi)).length:Int)<((bI (1+ay Yg a h Yi)).length:Int):=by
 have v:=gk hb a h h2
 have s:=dH (n:=Yi) h0 h1
 have p:1≤(bI (1+ay Yg a h Yi)).length:=by simp [bI]
 have w:=gk hb (av Yg.length a Yi) (az h Yi) (n:=((bI (1+ay Yg a h Yi)).length:Int)) (by omega)
 have m:(ax Yg a h Yi).1∈bI (1+ay Yg a h Yi):=cE _ _ _ (by omega)
 obtain ⟨q1,q2,q3⟩:=N3 (by omega) (by omega) m
 have s2:=dH (n:=((bI (1+ay Yg a h Yi)).length:Int)) s.1 s.2
 exact ⟨⟨by omega,by omega,q3,s2.1,s2.2⟩,m,w.1,by omega⟩
theorem qU {l:List Int} {n:Nat} (hl:l.length+1=n) (hr:∀i,i<l.length→0≤l.getD i 0∧l.getD i 0≤(n:Int) - 2):(bP l).length=n∧∀i,i<(bP l).length→0≤(bP l).getD i 0∧(bP l).getD i 0≤(n:Int) - 1:=by
 have L:(bP l).length=n:=by simp [bP];omega
 refine ⟨L,fun i hi=>?_⟩
 cases i with
 | zero=>simp [bP];omega
 | succ i =>
  have h:i<l.length:=by omega
  have e:(bP l).getD (i+1) 0=l.getD i 0+1:=by
   show (l.map fun x=>x+1).getD i 0=_
   exact qR _ _ _ _ _ h
  have:=hr i h
  omega
theorem qV {Yg:List Int} (hb:bD Yg) {m:Nat} {d:Dr} (h:mZ Yg m d):((bO Yg d).1.length+1=d.1.length∧∀i,i<(bO Yg d).1.length→0≤(bO Yg d).1.getD i 0∧(bO Yg d).1.getD i 0≤(d.1.length:Int) - 2)∧0≤(bO Yg d).2.1∧(bO Yg d).2.1≤(Yg.length:Int):=by
 obtain ⟨a1,a2,a3,a4,a5⟩:=h;have s:=dH (n:=2) a4 a5
 have D:=Oq hb (h:=az d.2.2 2) s.1 s.2 ((d.1.length:Int) - 1).toNat
 have I:=rF hb (h:=az d.2.2 2) s.1 s.2 ((d.1.length:Int) - 1).toNat
 refine ⟨⟨by have:=D.1;unfold bO;omega,fun i hi=>?_⟩,I.2.2⟩
 have:=D.2 i hi
 unfold bO;omega
theorem xD {n:Nat} {t:List (List Int)} {p:List Int} (ht:ba n t) (hn:t.length=n) (hp:p.length=n) (hr:∀i,i<p.length→0≤p.getD i 0∧p.getD i 0≤(n:Int) - 1):ba n (cV t p t.length):=by
 subst hn;exact Nm (yJ (jr ht) (by omega) hr t.length (Nat.le_refl _))
theorem xE {Yg:List Int} (hb:bD Yg) {m:Nat} {d:Dr} (h:mZ Yg m d):mZ Yg m (iR Yg d):=by
 have P:=qV hb h
 obtain ⟨a1,a2,a3,a4,a5⟩:=h;have s:=dH (n:=2) a4 a5
 unfold iR;split
 ·split
  ·obtain ⟨q1,q2⟩:=qU P.1.1 P.1.2
   have T:=xD a3 rfl q1 q2
   refine ⟨?_,?_,?_,P.2.1,P.2.2⟩
   ·show 1≤(cV d.1 (bP (bO Yg d).1) d.1.length).length;rw [T.1];exact a1
   ·show (cV d.1 (bP (bO Yg d).1) d.1.length).length≤m;rw [T.1];exact a2
   ·show ba (cV d.1 (bP (bO Yg d).1) d.1.length).length _;rw [T.1];exact T
  ·exact ⟨a1,a2,a3,s.1,s.2⟩
 ·exact ⟨a1,a2,a3,a4,a5⟩
theorem FJ {l:List Int} {i:Nat} (h:i<l.length):bP (l.take i)++[l.getD i 0+1]=bP (l.take (i+1)):=by
 rw [←dF l 0 i h];simp [bP]
def qW (Yg:List Int) (a:Int) (h:Int) (Yi:Int):Post:=⟨bD Yg∧Yg.length≤4096∧0≤a∧a≤(Yg.length:Int)∧1≤Yi∧Yi≤8,.c (.rows 57 2 .i64 ((dG Yg a h Yi).1)),[.bx [.ints .u8 (Yg),.int .i64 ((dG Yg a h Yi).2.1),.int .u64 ((dG Yg a h Yi).2.2)]]⟩
def qX:List AD→Option Post
 | [.box [.ints .u8 (Yg),.int .i64 (a),.int .u64 (h)],.c (.int .i64 (Yi))]=>some (qW Yg a h Yi)
 | _=>none
def FK (Yg:List Int) (a:Int) (h:Int) (Yi:Int):Nat→Option Ann
 | 1003=>some (Ann.mk ((Unit)) (fun u=>⟨[(0,.c (.ptr 700 0)),(6,.c (.own (6)))],[(6,some (.rows 0 57 2 .i64 ((ax Yg a h Yi).1))),(700,some (.box [.orig 700 0 (.ints .u8 (Yg)),.int .i64 ((ax Yg a h Yi).2.1),.int .u64 ((ax Yg a h Yi).2.2)]))]⟩) (fun u=>True) (fun u=>0) (fun u=>fun b_=>match b_ with | 0=>some (Ann.mk ((Nat)) (fun i=>⟨[(6,.c (.own (6))),(8,.c (.own (8))),(9,.c (.own (9))),(10,.c (.int .i64 ((i:Int))))],[(6,some (.rows 0 57 2 .i64 ((ax Yg a h Yi).1))),(8,some (.ints 2 .i64 (bP ((bO Yg (ax Yg a h Yi)).1.take i)))),(9,some (.ints 2 .i64 ((bO Yg (ax Yg a h Yi)).1))),(700,some (.box [.orig 700 0 (.ints .u8 (Yg)),.int .i64 ((bO Yg (ax Yg a h Yi)).2.1),.int .u64 ((bO Yg (ax Yg a h Yi)).2.2)]))]⟩) (fun i=>i≤(bO Yg (ax Yg a h Yi)).1.length∧1<((ax Yg a h Yi).1.length:Int)∧ay Yg (ax Yg a h Yi).2.1 (ax Yg a h Yi).2.2 2=0) (fun i=>(bO Yg (ax Yg a h Yi)).1.length - i) (fun _=>am)) | _=>none))
 | _=>none
def FL (t:Nat):Bool:=[3000022].contains t
def FM:List (Nat×Ctr):=[(112,⟨[(0,0)],lN⟩),(166,⟨[],rB⟩),(222,⟨[(0,0)],rH⟩),(182,⟨[],rJ⟩)]
def qY (Yg:List Int) (a:Int) (h:Int) (Yi:Int):=(bz Yg (av (Yg.length) (((ax Yg a h Yi).2).1) (2:Int)) (az (((ax Yg a h Yi).2).2) (2:Int)) (((↑(((ax Yg a h Yi).1).length):Int) - (1:Int)).toNat))
def eS (Yg:List Int) (a:Int) (h:Int) (Yi:Int):=((bO Yg (ax Yg a h Yi)).1)
def xF (Yg:List Int) (a:Int) (h:Int) (Yi:Int):Prop :=
 ((((bD Yg)∧(((0:Int)≤a)∧(a≤(1099511627776:Int))))∧((Yg=Yg)∧True))∧((ab ((1:Int)+ay Yg a h Yi))∧(((((1:Int)≤(1:Int)+ay Yg a h Yi)∧((1:Int)+ay Yg a h Yi≤(8:Int)))∧True)∧(((((bD Yg)∧(((0:Int)≤av (Yg.length) a Yi)∧(av (Yg.length) a Yi≤(1099511627776:Int))))∧((Yg=Yg)∧True))∧((aa (ay Yg (av (Yg.length) a Yi) (az h Yi) (↑(FC.len (FC.r3 IntKind.i64 (bI ((1:Int)+ay Yg a h Yi)))):Int)) (FC.len (FC.r3 IntKind.i64 (bI ((1:Int)+ay Yg a h Yi)))))∧(∃x0:Unit,(True∧(((bI ((1:Int)+ay Yg a h Yi)).getD ((ay Yg (av (Yg.length) a Yi) (az h Yi) (↑(FC.len (FC.r3 IntKind.i64 (bI ((1:Int)+ay Yg a h Yi)))):Int)).toNat) ([]:List (List Int))=(ax Yg a h Yi).1)∧((Yg=Yg)∧((av (Yg.length) (av (Yg.length) a Yi) (↑(FC.len (FC.r3 IntKind.i64 (bI ((1:Int)+ay Yg a h Yi)))):Int)=((ax Yg a h Yi).2).1)∧(az (az h Yi) (↑(FC.len (FC.r3 IntKind.i64 (bI ((1:Int)+ay Yg a h Yi)))):Int)=((ax Yg a h Yi).2).2))))))))∧(∀x1:Unit,(True→(ac (decide ((1:Int)<(↑(((ax Yg a h Yi).1).length):Int))) ((((bD Yg)∧(((0:Int)≤((ax Yg a h Yi).2).1)∧(((ax Yg a h Yi).2).1≤(1099511627776:Int))))∧((Yg=Yg)∧True))∧(ac (ay Yg (((ax Yg a h Yi).2).1) (((ax Yg a h Yi).2).2) (2:Int) == (0:Int)) ((ab ((↑(((ax Yg a h Yi).1).length):Int) - (1:Int)))∧((((bD Yg) ∧
 (((0:Int)≤av (Yg.length) (((ax Yg a h Yi).2).1) (2:Int))∧((av (Yg.length) (((ax Yg a h Yi).2).1) (2:Int)≤(↑(Yg.length):Int))∧((Yg.length≤(4096:Nat))∧(((0:Int)≤(↑(((ax Yg a h Yi).1).length):Int) - (1:Int))∧((↑(((ax Yg a h Yi).1).length):Int) - (1:Int)≤(144:Int)))))))∧((Yg=Yg)∧True))∧((∃x2:Nat,(((x2≤(eS Yg a h Yi).length)∧(((1:Int)<(↑(((ax Yg a h Yi).1).length):Int))∧(ay Yg (((ax Yg a h Yi).2).1) (((ax Yg a h Yi).2).2) (2:Int)=(0:Int))))∧(((0:Int)=(↑x2:Int))∧(((ax Yg a h Yi).1=(ax Yg a h Yi).1)∧(([(0:Int)]=bP (List.take x2 (eS Yg a h Yi)))∧(((qY Yg a h Yi).1=(bO Yg (ax Yg a h Yi)).1)∧((Yg=Yg)∧((((qY Yg a h Yi).2).1=((bO Yg (ax Yg a h Yi)).2).1)∧(((qY Yg a h Yi).2).2=((bO Yg (ax Yg a h Yi)).2).2)))))))))∧(∀x3:Nat,(((x3≤(eS Yg a h Yi).length)∧(((1:Int)<(↑(((ax Yg a h Yi).1).length):Int))∧(ay Yg (((ax Yg a h Yi).2).1) (((ax Yg a h Yi).2).2) (2:Int)=(0:Int))))→(ac (decide ((↑x3:Int)<(↑(((bO Yg (ax Yg a h Yi)).1).length):Int))) ((aa (↑x3:Int) ((eS Yg a h Yi).length))∧((ab ((eS Yg a h Yi).getD ((↑x3:Int).toNat) (0:Int)+(1:Int)))∧((ae ((bP (List.take x3 (eS Yg a h Yi))).length+[(eS Yg a h Yi).getD ((↑x3:Int).toNat) (0:Int)+(1:Int)].length))∧((ab ((↑x3:Int)+(1:Int))) ∧
 (∃x4:Nat,(((x4≤(eS Yg a h Yi).length)∧(((1:Int)<(↑(((ax Yg a h Yi).1).length):Int))∧(ay Yg (((ax Yg a h Yi).2).1) (((ax Yg a h Yi).2).2) (2:Int)=(0:Int))))∧(((eS Yg a h Yi).length - x4<(eS Yg a h Yi).length - x3)∧(((↑x3:Int)+(1:Int)=(↑x4:Int))∧(((ax Yg a h Yi).1=(ax Yg a h Yi).1)∧((bP (List.take x3 (eS Yg a h Yi))++[(eS Yg a h Yi).getD ((↑x3:Int).toNat) (0:Int)+(1:Int)]=bP (List.take x4 (eS Yg a h Yi)))∧(((bO Yg (ax Yg a h Yi)).1=(bO Yg (ax Yg a h Yi)).1)∧((Yg=Yg)∧((((bO Yg (ax Yg a h Yi)).2).1=((bO Yg (ax Yg a h Yi)).2).1)∧(((bO Yg (ax Yg a h Yi)).2).2=((bO Yg (ax Yg a h Yi)).2).2)))))))))))))) ((((au ((ax Yg a h Yi).1))∧((((ax Yg a h Yi).1).length≤(144:Nat))∧((gL (↑(((ax Yg a h Yi).1).length):Int) ((ax Yg a h Yi).1))∧(((bP (List.take x3 (eS Yg a h Yi))).length=((ax Yg a h Yi).1).length)∧(∀(i:Nat),i<(bP (List.take x3 (eS Yg a h Yi))).length→(0:Int)≤(bP (List.take x3 (eS Yg a h Yi))).getD i (0:Int)∧(bP (List.take x3 (eS Yg a h Yi))).getD i (0:Int)≤(↑(((ax Yg a h Yi).1).length):Int) - (1:Int))))))∧True)∧((cV ((ax Yg a h Yi).1) (bP (List.take x3 (eS Yg a h Yi))) (((ax Yg a h Yi).1).length)=(dG Yg a h Yi).1)∧(((Yg=Yg) ∧
 ((((bO Yg (ax Yg a h Yi)).2).1=((dG Yg a h Yi).2).1)∧((((bO Yg (ax Yg a h Yi)).2).2=((dG Yg a h Yi).2).2)∧True)))∧True))))))))) (((ax Yg a h Yi).1=(dG Yg a h Yi).1)∧(((Yg=Yg)∧((av (Yg.length) (((ax Yg a h Yi).2).1) (2:Int)=((dG Yg a h Yi).2).1)∧((az (((ax Yg a h Yi).2).2) (2:Int)=((dG Yg a h Yi).2).2)∧True)))∧True)))) (((ax Yg a h Yi).1=(dG Yg a h Yi).1)∧(((Yg=Yg)∧((((ax Yg a h Yi).2).1=((dG Yg a h Yi).2).1)∧((((ax Yg a h Yi).2).2=((dG Yg a h Yi).2).2)∧True)))∧True)))))))))
theorem Nn (Yg:List Int) (a:Int) (h:Int) (Yi:Int):aC Tryz.prog (af FM) FL (FK Yg a h Yi) Tryz.f190 (aE Tryz.f190) [(0,0)] [.box [.ints .u8 (Yg),.int .i64 (a),.int .u64 (h)],.c (.int .i64 (Yi))] (qW Yg a h Yi)=xF Yg a h Yi:=by kernel_rfl
theorem No (Yg:List Int) (a:Int) (h:Int) (Yi:Int) (Yh:(qW Yg a h Yi).pre):xF Yg a h Yi:=by
 simp only [qW,xF,qY,eS,aG,u1,u2,u3,u4,u5,u6,u7,u8,u9,v1,v2,v3,v4,v5,v6,v7,v8,v9,w1,w2,w3,w4,aH,aa,ab,ae,ar] at Yh ⊢;simp only [FC.len];obtain ⟨hb,hc,h0,h1,h2,h3⟩:=Yh;obtain ⟨K,_,w1,w2⟩:=m6 hb (h:=h) h0 h1 h2 h3;have v:=gk hb a h h2
 have s:=dH (n:=Yi) h0 h1
 refine ⟨⟨hb,h0,by omega⟩,by omega,by omega,⟨⟨hb,s.1,by omega⟩,⟨w1,w2⟩,⟨⟨⟩,rfl,rfl,rfl⟩⟩,fun _ _=>?_⟩
 have e:dG Yg a h Yi=iR Yg (ax Yg a h Yi):=rfl
 rw [e];generalize ax Yg a h Yi=d at K ⊢
 have P:=qV hb K
 obtain ⟨k1,k2,k3,k4,k5⟩:=K;have s2:=dH (n:=2) k4 k5
 refine ⟨fun z=>⟨⟨hb,k4,by omega⟩,fun y=>⟨by omega,⟨hb,s2.1,s2.2,hc,by omega,by omega⟩,⟨0,⟨by omega,z,y⟩,rfl,rfl,rfl,rfl,rfl⟩,fun i ⟨hi,_,_⟩=>⟨fun g=>?_,fun g=>?_⟩⟩,fun y=>?_⟩,fun z=>?_⟩
 ·have:=P.1.2 i (by omega)
  refine ⟨by omega,by omega,by simp [bP];omega,by omega,i+1,⟨by omega,z,y⟩,by omega,by omega,FJ (by omega)⟩
 ·rw [List.take_of_length_le (by omega)]
  obtain ⟨q1,q2⟩:=qU P.1.1 P.1.2;have R:iR Yg d=(cV d.1 (bP (bO Yg d).1) d.1.length,(bO Yg d).2):=by unfold iR;rw [if_pos z,if_pos y]
  rw [R];exact ⟨⟨nq (jr k3) (by omega),by omega,jr k3,q1,q2⟩,rfl,rfl,rfl⟩
 ·have R:iR Yg d=(d.1,av Yg.length d.2.1 2,az d.2.2 2):=by unfold iR;rw [if_pos z,if_neg y]
  rw [R];exact ⟨rfl,rfl,rfl⟩
 ·have R:iR Yg d=d:=by unfold iR;rw [if_neg z]
  rw [R];exact ⟨rfl,rfl,rfl⟩
theorem FN:Fits Tryz.prog 190 ⟨[(0,0)],qX⟩:=by
 refine aJ (Γ:=af FM) (aj oQ (aj Gl (aj Gy (aj GB aF)))) Tryz.func190 fun ds p h hp=>?_
 unfold qX at h;split at h
 ·cases h
  exact ⟨FL,FK _ _ _ _ ,by rw [Nn];exact No _ _ _ _  hp⟩
 ·cases h
def fL (t:List (List Int)) (y:Nat):List Int:=aq t.length fun x=>en t x y
def eG (t:List (List Int)):List (List Int):=(List.range t.length).map (fL t)
theorem Np {n:Nat} (f:Nat→Int) {i:Nat} (hi:i<n):(aq n f).take i++[f i]=(aq n f).take (i+1):=by
 rw [←dF (aq n f) 0 i (by rw [cf];exact hi),cr _ _ _ hi]
def qZ (t:List (List Int)) (y:Int):Post:=⟨t.length≤144∧0≤y∧y<(t.length:Int)∧(∀x,x<t.length→(t.getD x []).length=t.length),.c (.ints 2 .i64 (fL t y.toNat)),[]⟩
def xG:List AD→Option Post
 | [.c (.rows .i64 (t)),.c (.int .i64 (y))]=>some (qZ t y)
 | _=>none
def FO (t:List (List Int)) (y:Int):Nat→Option Ann
 | 0=>some (Ann.mk ((Nat)) (fun x=>⟨[(0,.c (.ro (.rows .i64 (t)))),(1,.c (.int .i64 (y))),(5,.c (.own (100))),(6,.c (.int .i64 ((x:Int))))],[(100,some (.ints 2 .i64 ((fL t y.toNat).take x)))]⟩) (fun x=>x≤t.length) (fun x=>t.length - x) (fun _=>am))
 | _=>none
def FP:List (Nat×Ctr):=[]
def xH (t:List (List Int)) (y:Int):Prop :=
 ((∃x0:Nat,((x0≤t.length)∧((t=t)∧((y=y)∧(((0:Int)=(↑x0:Int))∧([]=List.take x0 (fL t (y.toNat))))))))∧(∀x1:Nat,((x1≤t.length)→(ac (decide ((↑x1:Int)<(↑(t.length):Int))) ((aa (↑x1:Int) (t.length))∧((aa y ((t.getD ((↑x1:Int).toNat) []).length))∧((ae ((List.take x1 (fL t (y.toNat))).length+[(List.getD t ((↑x1:Int).toNat) []).getD (y.toNat) (0:Int)].length))∧((ab ((↑x1:Int)+(1:Int)))∧(∃x2:Nat,((x2≤t.length)∧((t.length - x2<t.length - x1)∧((t=t)∧((y=y)∧(((↑x1:Int)+(1:Int)=(↑x2:Int))∧(List.take x1 (fL t (y.toNat))++[(List.getD t ((↑x1:Int).toNat) []).getD (y.toNat) (0:Int)]=List.take x2 (fL t (y.toNat))))))))))))) ((List.take x1 (fL t (y.toNat))=fL t (y.toNat))∧True)))))
theorem Nq (t:List (List Int)) (y:Int):aC Tryz.prog (af FP) ah (FO t y) Tryz.f274 (aE Tryz.f274) [] [.c (.rows .i64 (t)),.c (.int .i64 (y))] (qZ t y)=xH t y:=by kernel_rfl
theorem Nr (t:List (List Int)) (y:Int) (Yh:(qZ t y).pre):xH t y:=by
 simp only [qZ,xH,aG,u1,u2,u3,u4,u5,u6,u7,u8,u9,v1,v2,v3,v4,v5,v6,v7,v8,v9,w1,w2,w3,w4,aH,aa,ab,ae,ar] at Yh ⊢;obtain ⟨h1,h2,h3,h4⟩:=Yh;have lc:(fL t y.toNat).length=t.length:=cf _ _
 refine ⟨⟨0,by omega,by omega,rfl⟩,fun x hx=>⟨fun h=>?_,fun h=>?_⟩⟩
 ·have:=h4 x (by omega)
  exact ⟨by omega,by omega,by omega,by omega,x+1,by omega,by omega,by omega,Np (fun x=>en t x y.toNat) (by omega)⟩
 ·exact List.take_of_length_le (by omega)
theorem Ns:Fits Tryz.prog 274 ⟨[],xG⟩:=by
 refine aJ (Γ:=af FP) aF Tryz.func274 fun ds p h hp=>?_
 unfold xG at h;split at h
 ·cases h
  exact ⟨ah,FO _ _ ,by rw [Nq];exact Nr _ _  hp⟩
 ·cases h
def q8 (t:List (List Int)):Post:=⟨t.length≤144∧(∀x,x<t.length→(t.getD x []).length=t.length),.c (.rows 57 2 .i64 (eG t)),[]⟩
def xI:List AD→Option Post
 | [.c (.rows .i64 (t))]=>some (q8 t)
 | _=>none
def FQ (t:List (List Int)):Nat→Option Ann
 | 0=>some (Ann.mk ((Nat)) (fun y=>⟨[(0,.c (.ro (.rows .i64 (t)))),(3,.c (.own (100))),(4,.c (.int .i64 ((y:Int))))],[(100,some (.rows 0 57 2 .i64 ((eG t).take y)))]⟩) (fun y=>y≤t.length) (fun y=>t.length - y) (fun _=>am))
 | _=>none
def FR:List (Nat×Ctr):=[(274,⟨[],xG⟩)]
def xJ (t:List (List Int)):Prop :=
 ((∃x0:Nat,((x0≤t.length)∧((t=t)∧(((0:Int)=(↑x0:Int))∧(([]:List (List Int))=List.take x0 (eG t))))))∧(∀x1:Nat,((x1≤t.length)→(ac (decide ((↑x1:Int)<(↑(t.length):Int))) ((((t.length≤(144:Nat))∧(((0:Int)≤(↑x1:Int))∧(((↑x1:Int)<(↑(t.length):Int))∧(∀(x:Nat),x<t.length→(t.getD x []).length=t.length))))∧True)∧((ae ((List.take x1 (eG t)).length+(fL t ((↑x1:Int).toNat)::([]:List (List Int))).length))∧((ab ((↑x1:Int)+(1:Int)))∧(∃x2:Nat,((x2≤t.length)∧((t.length - x2<t.length - x1)∧((t=t)∧(((↑x1:Int)+(1:Int)=(↑x2:Int))∧(List.take x1 (eG t)++fL t ((↑x1:Int).toNat)::([]:List (List Int))=List.take x2 (eG t)))))))))) ((List.take x1 (eG t)=eG t)∧True)))))
theorem Nt (t:List (List Int)):aC Tryz.prog (af FR) ah (FQ t) Tryz.f245 (aE Tryz.f245) [] [.c (.rows .i64 (t))] (q8 t)=xJ t:=by kernel_rfl
theorem Nu (t:List (List Int)) (Yh:(q8 t).pre):xJ t:=by
 simp only [q8,xJ,aG,u1,u2,u3,u4,u5,u6,u7,u8,u9,v1,v2,v3,v4,v5,v6,v7,v8,v9,w1,w2,w3,w4,aH,aa,ab,ae,ar] at Yh ⊢;obtain ⟨h1,h4⟩:=Yh;have lc:(eG t).length=t.length:=by simp [eG]
 have li:∀y,(fL t y).length=t.length:=fun y=>cf _ _
 refine ⟨⟨0,by omega,by omega,rfl⟩,fun y hy=>⟨fun h=>⟨⟨by omega,by omega,by omega,h4⟩,by omega,by omega,y+1,by omega,by omega,by omega,?_⟩,fun h=>?_⟩⟩
 ·rw [←dF (eG t) [] y (by omega)]
  simp [eG,List.getD_eq_getElem?_getD,show y<t.length by omega]
 ·exact List.take_of_length_le (by omega)
theorem Nv:Fits Tryz.prog 245 ⟨[],xI⟩:=by
 refine aJ (Γ:=af FR) (aj Ns aF) Tryz.func245 fun ds p h hp=>?_
 unfold xI at h;split at h
 ·cases h
  exact ⟨ah,FQ _ ,by rw [Nt];exact Nu _  hp⟩
 ·cases h
theorem Nx {n:Nat} {t:List (List Int)} (h:ba n t):ba n (eG t):=by
 have e:=h.1
 refine ⟨by simp [eG,e],fun x hx=>?_⟩
 have r:(eG t).getD x []=fL t x:=by simp [eG,List.getD_eq_getElem?_getD,e,hx]
 refine ⟨by rw [r,fL,cf,e],fun y hy=>?_⟩
 have v:en (eG t) x y=en t y x:=by
  show ((eG t).getD x []).getD y 0=_
  rw [r,fL,cr _ _ _ (by omega)]
 rw [v];exact (h.2 y hy).2 x hx
def d8 (n k:Int) (x y:Nat):Int:=((x:Int)+(y:Int)+k * (x:Int) * (y:Int)).tmod n
def hY (n k:Int):List (List Int):=aS n.toNat (d8 n k)
theorem FS {n k:Int} (h:1≤n) (hk:0≤k):ba (ak n).length (hY n k):=by
 have e:=nh h
 refine ⟨by rw [hY,fK];omega,fun x hx=>?_⟩
 have r:(hY n k).getD x []=aq n.toNat (d8 n k x):=eZ _ _ _ (by omega)
 refine ⟨by rw [r,cf];omega,fun y hy=>?_⟩
 have v:en (hY n k) x y=d8 n k x y:=by
  show ((hY n k).getD x []).getD y 0=_
  rw [r,cr _ _ _ (by omega)]
 have p:0≤k * (x:Int) * (y:Int):=Int.mul_nonneg (Int.mul_nonneg hk (by omega)) (by omega)
 have a:=Int.tmod_nonneg (a:=(x:Int)+(y:Int)+k * (x:Int) * (y:Int)) n (by omega)
 have b:=Int.tmod_lt_of_pos ((x:Int)+(y:Int)+k * (x:Int) * (y:Int)) (b:=n) (by omega)
 rw [v,d8];omega
def q9 (n:Int) (k:Int):Post:=⟨1≤n∧n≤12∧0≤k∧k≤12,.agg [.rows 57 2 .i64 (ak n),.rows 57 2 .i64 (hY n k)],[]⟩
def xK:List AD→Option Post
 | [.c (.int .i64 (n)),.c (.int .i64 (k))]=>some (q9 n k)
 | _=>none
def FT (n:Int) (k:Int):Nat→Option Ann
 | 0=>some (Ann.mk ((Nat)) (fun i=>⟨[(0,.c (.int .i64 (n))),(1,.c (.int .i64 (k))),(4,.c (.ptr 4 0)),(5,.c (.ptr 5 0)),(6,.c (.int .i64 ((i:Int))))],[(4,some (.box [.nil,.nil])),(5,some (.box [.own (105),.own (106)])),(105,some (.rows 0 57 2 .i64 (ak n))),(106,some (.rows 0 57 2 .i64 (bB n.toNat i (d8 n k))))]⟩) (fun i=>(i:Int)≤n) (fun i=>n.toNat - i) (fun i=>fun b_=>match b_ with | 2=>some (Ann.mk ((Nat)) (fun j=>⟨[(0,.c (.int .i64 (n))),(1,.c (.int .i64 (k))),(4,.c (.ptr 4 0)),(5,.c (.ptr 5 0)),(6,.c (.int .i64 ((i:Int)))),(7,.c (.own (7))),(8,.c (.int .i64 ((j:Int))))],[(4,some (.box [.nil,.nil])),(5,some (.box [.own (105),.own (106)])),(105,some (.rows 0 57 2 .i64 (ak n))),(106,some (.rows 0 57 2 .i64 (bB n.toNat i (d8 n k)))),(7,some (.ints 2 .i64 (aq j (d8 n k i))))]⟩) (fun j=>(i:Int)<n∧(j:Int)≤n) (fun j=>n.toNat - j) (fun _=>am)) | _=>none))
 | _=>none
def FU:List (Nat×Ctr):=[(206,⟨[],uz⟩)]
def xL (n:Int) (k:Int):Prop :=
 (((((1:Int)≤n)∧(n≤(12:Int)))∧True)∧((∃x0:Nat,(((↑x0:Int)≤n)∧((n=n)∧((k=k)∧(((0:Int)=(↑x0:Int))∧((ak n=ak n)∧(bB (n.toNat) x0 (d8 n k)=([]:List (List Int)))))))))∧(∀x1:Nat,(((↑x1:Int)≤n)→(ac (decide ((↑x1:Int)<n)) ((∃x2:Nat,((((↑x1:Int)<n)∧((↑x2:Int)≤n))∧((n=n)∧((k=k)∧(((↑x1:Int)=(↑x1:Int))∧(((0:Int)=(↑x2:Int))∧((ak n=ak n)∧((bB (n.toNat) x1 (d8 n k)=bB (n.toNat) x1 (d8 n k))∧([]=aq x2 (d8 n k x1))))))))))∧(∀x3:Nat,((((↑x1:Int)<n)∧((↑x3:Int)≤n))→(ac (decide ((↑x3:Int)<n)) ((ab ((↑x1:Int)+(↑x3:Int)))∧((ab (k * (↑x1:Int)))∧((ab (k * (↑x1:Int) * (↑x3:Int)))∧((ab ((↑x1:Int)+(↑x3:Int)+k * (↑x1:Int) * (↑x3:Int)))∧((n≠(0:Int))∧((ae ((aq x3 (d8 n k x1)).length+[Int.tmod ((↑x1:Int)+(↑x3:Int)+k * (↑x1:Int) * (↑x3:Int)) n].length))∧((ab ((↑x3:Int)+(1:Int)))∧(∃x4:Nat,((((↑x1:Int)<n)∧((↑x4:Int)≤n))∧((n.toNat - x4<n.toNat - x3)∧((n=n)∧((k=k)∧(((↑x1:Int)=(↑x1:Int))∧(((↑x3:Int)+(1:Int)=(↑x4:Int))∧((ak n=ak n)∧((bB (n.toNat) x1 (d8 n k)=bB (n.toNat) x1 (d8 n k))∧(aq x3 (d8 n k x1)++[Int.tmod ((↑x1:Int)+(↑x3:Int)+k * (↑x1:Int) * (↑x3:Int)) n]=aq x4 (d8 n k x1)))))))))))))))))) ((ae ((bB (n.toNat) x1 (d8 n k)).length+(aq x3 (d8 n k x1)::([]:List (List Int))).length))∧((ab ((↑x1:Int)+(1:Int)))∧(∃x5:Nat,(((↑x5:Int)≤n)∧((n.toNat - x5<n.toNat - x1)∧((n=n)∧((k=k)∧(((↑x1:Int)+(1:Int)=(↑x5:Int))∧((ak n=ak n) ∧
 (bB (n.toNat) x1 (d8 n k)++aq x3 (d8 n k x1)::([]:List (List Int))=bB (n.toNat) x5 (d8 n k))))))))))))))) (((ak n=ak n)∧((bB (n.toNat) x1 (d8 n k)=hY n k)∧True))∧True))))))
theorem Ny (n:Int) (k:Int):aC Tryz.prog (af FU) ah (FT n k) Tryz.f246 (aE Tryz.f246) [] [.c (.int .i64 (n)),.c (.int .i64 (k))] (q9 n k)=xL n k:=by kernel_rfl
theorem Nz (n:Int) (k:Int) (Yh:(q9 n k).pre):xL n k:=by
 simp only [q9,xL,aG,u1,u2,u3,u4,u5,u6,u7,u8,u9,v1,v2,v3,v4,v5,v6,v7,v8,v9,w1,w2,w3,w4,aH,aa,ab,ae,ar] at Yh ⊢;obtain ⟨h1,h2,h3,h4⟩:=Yh;refine ⟨⟨h1,h2⟩,⟨0,by omega,rfl,rfl⟩,fun i hi=>⟨fun h=>⟨⟨0,⟨by omega,by omega⟩,rfl,rfl⟩,fun j ⟨_,hj⟩=>⟨fun g=>?_,fun g=>⟨by rw [uw];omega,by omega,i+1,by omega,by omega,by omega,?_⟩⟩⟩,fun h=>?_⟩⟩
 ·have a1:k * (i:Int)≤12 * 12:=Int.mul_le_mul (by omega) (by omega) (by omega) (by omega)
  have a0:0≤k * (i:Int):=Int.mul_nonneg h3 (by omega)
  have b1:k * (i:Int) * (j:Int)≤12 * 12 * 12:=Int.mul_le_mul a1 (by omega) (by omega) (by omega)
  have b0:0≤k * (i:Int) * (j:Int):=Int.mul_nonneg a0 (by omega)
  refine ⟨by omega,by omega,by omega,by omega,by omega,by rw [cf];omega,by omega,j+1,⟨by omega,by omega⟩,by omega,by omega,?_⟩
  rw [tab_succ'];rfl
 ·rw [uv,show j=n.toNat by omega]
 ·rw [show i=n.toNat by omega];rfl
theorem NA:Fits Tryz.prog 246 ⟨[],xK⟩:=by
 refine aJ (Γ:=af FU) (aj Jz aF) Tryz.func246 fun ds p h hp=>?_
 unfold xK at h;split at h
 ·cases h
  exact ⟨ah,FT _ _ ,by rw [Ny];exact Nz _ _  hp⟩
 ·cases h
end Go.Sx
