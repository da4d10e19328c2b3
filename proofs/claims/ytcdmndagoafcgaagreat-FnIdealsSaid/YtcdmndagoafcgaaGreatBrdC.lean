/- BrdC -/
import Derived.Test.YtcdmndagoafcgaaGreatBrdB
open Go Go.Proofs
namespace Go.Sx
set_option linter.unusedSimpArgs false
set_option linter.unusedVariables false
abbrev Bd:=List (List Int)×List (List Int)×Int×Int
def rb (Yg:List Int) (d:Dr):Bd:=(d.1,if ay Yg d.2.1 d.2.2 2=0 then eG d.1 else d.1,av Yg.length d.2.1 2,az d.2.2 2)
def eH (Yg:List Int) (Yi a h:Int):Int:=1+ay Yg a h Yi
def oL (Yg:List Int) (Yi a h:Int):Int:=ay Yg (av Yg.length a Yi) (az h Yi) (eH Yg Yi a h)
def m8 (Yg:List Int) (Yi a h:Int):Int:=av Yg.length (av Yg.length a Yi) (eH Yg Yi a h)
def re (Yg:List Int) (Yi a h:Int):Int:=az (az h Yi) (eH Yg Yi a h)
def bS (Yg:List Int) (d:Dr):Bd:=(d.1,(gp d.1 (cF d.1)).getD (ay Yg d.2.1 d.2.2 ((gp d.1 (cF d.1)).length:Int)).toNat [],av Yg.length d.2.1 ((gp d.1 (cF d.1)).length:Int),az d.2.2 ((gp d.1 (cF d.1)).length:Int))
def js (Yg:List Int) (b:Bd):Bd :=
 if 1<(b.1.length:Int) then
  if ay Yg b.2.2.1 b.2.2.2 2=0 then (cV b.1 (bP (bO Yg (b.1,b.2.2)).1) b.1.length,cV b.2.1 (bP (bO Yg (b.1,b.2.2)).1) b.2.1.length,(bO Yg (b.1,b.2.2)).2) else (b.1,b.2.1,av Yg.length b.2.2.1 2,az b.2.2.2 2)
 else b
def kQ (Yg:List Int) (a h Yi:Int):Bd:=js Yg (bS Yg (ax Yg a h Yi))
def m7 (Yi:Int):Int:=if 7<Yi then 7 else Yi
def jT (Yg:List Int) (Yi:Int):Nat→Int→Int→Bd
 | 0,a,h=>kQ Yg a h (m7 Yi)
 | j+1,a,h=>if aK (ak (eH Yg Yi a h)) (hY (eH Yg Yi a h) (oL Yg Yi a h))=true then (ak (eH Yg Yi a h),hY (eH Yg Yi a h) (oL Yg Yi a h),m8 Yg Yi a h,re Yg Yi a h) else jT Yg Yi j (m8 Yg Yi a h) (re Yg Yi a h)
def jU (Yg:List Int) (a h Yi:Int):Bd :=
 if ay Yg a h 5=0 then rb Yg (dG Yg (av Yg.length a 5) (az h 5) Yi)
 else if ay Yg a h 5=1 then jT Yg Yi 6 (av Yg.length a 5) (az h 5)
 else kQ Yg (av Yg.length a 5) (az h 5) (m7 Yi)
def gj (Yg:List Int) (a h:Int):Bd:=jU Yg a h 4
def iT (Yg:List Int) (a h:Int):Bd:=jU Yg (gj Yg a h).2.2.1 (gj Yg a h).2.2.2 2
def rf (Yg:List Int) (a h:Int):Bd:=(bp (gj Yg a h).1 (iT Yg a h).1,bp (gj Yg a h).2.1 (iT Yg a h).2.1,(iT Yg a h).2.2)
def aP (Yg:List Int) (a h Yi:Int):Bd :=
 if ay Yg a h 5=2∧8≤Yi then rf Yg (av Yg.length a 5) (az h 5) else jU Yg a h Yi
def fM (Yg:List Int) (m:Nat) (b:Bd):Prop:=1≤b.1.length∧b.1.length≤m∧ba b.1.length b.1∧ba b.1.length b.2.1∧0≤b.2.2.1∧b.2.2.1≤(Yg.length:Int)
theorem FW {Yg:List Int} {m:Nat} {b:Bd} (h:fM Yg m b):mZ Yg m (b.1,b.2.2):=⟨h.1,h.2.1,h.2.2.1,h.2.2.2.2⟩
theorem FX {Yg:List Int} (hb:bD Yg) {n:Int} (h1:1≤n) (h2:n≤7) {m:Nat} {d:Dr} (hd:d.1∈bI n) (hg:mZ Yg m d) (hm:m≤12):fM Yg m (bS Yg d)∧(0≤ay Yg d.2.1 d.2.2 ((gp d.1 (cF d.1)).length:Int)∧ay Yg d.2.1 d.2.2 ((gp d.1 (cF d.1)).length:Int)<((gp d.1 (cF d.1)).length:Int)) ∧
  aW d.1=true∧AuOk d.1.length (cF d.1)∧(cF d.1).length≤100:=by
 obtain ⟨q1,q2,q3,q4,q5,q6⟩:=N2 h1 h2 hd;obtain ⟨a1,a2,a3,a4,a5⟩:=hg;obtain ⟨c1,c2⟩:=Ow q3 a1 (by omega) q4 q6
 have v:=gk hb d.2.1 d.2.2 (n:=((gp d.1 (cF d.1)).length:Int)) (by omega)
 have s:=dH (n:=((gp d.1 (cF d.1)).length:Int)) a4 a5
 refine ⟨⟨a1,a2,a3,c2 _ (cE _ [] _ (by omega)),s.1,s.2⟩,⟨v.1,by omega⟩,q2,q4,q5⟩
theorem NB {Yg:List Int} (hb:bD Yg) {m:Nat} {b:Bd} (h:fM Yg m b):fM Yg m (js Yg b):=by
 have P:=qV hb (FW h)
 obtain ⟨a1,a2,a3,a4,a5,a6⟩:=h;have s:=dH (n:=2) a5 a6
 unfold js;split
 ·split
  ·obtain ⟨q1,q2⟩:=qU P.1.1 P.1.2
   have T:=xD a3 rfl q1 q2
   have U:=xD a4 a4.1 q1 q2
   refine ⟨?_,?_,?_,?_,P.2.1,P.2.2⟩
   ·show 1≤(cV b.1 (bP (bO Yg (b.1,b.2.2)).1) b.1.length).length;rw [T.1];exact a1
   ·show (cV b.1 (bP (bO Yg (b.1,b.2.2)).1) b.1.length).length≤m;rw [T.1];exact a2
   ·show ba (cV b.1 (bP (bO Yg (b.1,b.2.2)).1) b.1.length).length _;rw [T.1];exact T
   ·show ba (cV b.1 (bP (bO Yg (b.1,b.2.2)).1) b.1.length).length _;rw [T.1];exact U
  ·exact ⟨a1,a2,a3,a4,s.1,s.2⟩
 ·exact ⟨a1,a2,a3,a4,a5,a6⟩
theorem xM {Yi:Int} (h2:1≤Yi):1≤m7 Yi∧m7 Yi≤7∧m7 Yi≤Yi:=by unfold m7;split <;> omega
theorem xN {Yg:List Int} {m k:Nat} {b:Bd} (h:fM Yg m b) (hk:m≤k):fM Yg k b:=⟨h.1,Nat.le_trans h.2.1 hk,h.2.2⟩
theorem FY {Yg:List Int} (hb:bD Yg) {a h Yi:Int} (h0:0≤a) (h1:a≤(Yg.length:Int)) (h2:1≤Yi) (h3:Yi≤7):fM Yg Yi.toNat (kQ Yg a h Yi):=by
 have v:=gk hb a h h2
 obtain ⟨K,m,_⟩:=m6 hb (h:=h) h0 h1 h2 (by omega)
 exact NB hb (FX hb (by omega) (by omega) m K (by omega)).1
theorem FZ {Yg:List Int} (hb:bD Yg) {a h Yi:Int} (h0:0≤a) (h1:a≤(Yg.length:Int)) (h2:1≤Yi):1≤eH Yg Yi a h∧eH Yg Yi a h≤Yi∧0≤oL Yg Yi a h∧oL Yg Yi a h≤eH Yg Yi a h - 1∧0≤m8 Yg Yi a h∧m8 Yg Yi a h≤(Yg.length:Int):=by
 have v:=gk hb a h h2
 have n1:1≤eH Yg Yi a h∧eH Yg Yi a h≤Yi:=by unfold eH;omega
 have s:=dH (n:=Yi) h0 h1
 have w:=gk hb (av Yg.length a Yi) (az h Yi) n1.1
 have s2:=dH (n:=eH Yg Yi a h) s.1 s.2
 exact ⟨n1.1,n1.2,w.1,w.2,s2.1,s2.2⟩
theorem F0 {Yg:List Int} (hb:bD Yg) {Yi:Int} (h2:1≤Yi):∀(j:Nat) (a h:Int),0≤a→a≤(Yg.length:Int)→fM Yg Yi.toNat (jT Yg Yi j a h)
 | 0,a,h,h0,h1=>by
  have m:=xM h2
  exact xN (FY hb h0 h1 m.1 m.2.1) (by omega)
 | j+1,a,h,h0,h1=>by
  obtain ⟨r1,r2,r3,r4,r5,r6⟩:=FZ hb (h:=h) h0 h1 h2;have e:=nh r1
  rw [jT];split
  ·exact ⟨by show 1≤(ak (eH Yg Yi a h)).length;omega,by show (ak (eH Yg Yi a h)).length≤Yi.toNat;omega,rz r1,FS r1 r3,r5,r6⟩
  ·exact F0 hb h2 j _ _ r5 r6
theorem xO {Yg:List Int} (hb:bD Yg) {a h Yi:Int} (h0:0≤a) (h1:a≤(Yg.length:Int)) (h2:1≤Yi) (h3:Yi≤8):fM Yg Yi.toNat (jU Yg a h Yi):=by
 have s:=dH (n:=5) h0 h1
 have m:=xM h2
 unfold jU;split
 ·obtain ⟨K,_⟩:=m6 hb (h:=az h 5) s.1 s.2 h2 h3
  obtain ⟨k1,k2,k3,k4,k5⟩:=xE hb K;have s2:=dH (n:=2) k4 k5
  refine ⟨k1,k2,k3,?_,s2.1,s2.2⟩
  show ba _ (if _ then _ else _)
  split
  ·exact Nx k3
  ·exact k3
 ·split
  ·exact F0 hb h2 6 _ _ s.1 s.2
  ·exact xN (FY hb s.1 s.2 m.1 m.2.1) (by omega)
theorem F1 {Yg:List Int} (hb:bD Yg) {a h:Int} (h0:0≤a) (h1:a≤(Yg.length:Int)):fM Yg 4 (gj Yg a h)∧fM Yg 2 (iT Yg a h)∧fM Yg 8 (rf Yg a h):=by
 have A:fM Yg 4 (gj Yg a h):=xO hb h0 h1 (by omega) (by omega)
 have B:fM Yg 2 (iT Yg a h):=xO hb A.2.2.2.2.1 A.2.2.2.2.2 (by omega) (by omega)
 refine ⟨A,B,?_⟩
 obtain ⟨a1,a2,a3,a4,a5,a6⟩:=A;obtain ⟨b1,b2,b3,b4,b5,b6⟩:=B;have a4':ba (gj Yg a h).2.1.length (gj Yg a h).2.1:=by rw [a4.1];exact a4
 have b4':ba (iT Yg a h).2.1.length (iT Yg a h).2.1:=by rw [b4.1];exact b4
 have T:=JB a3 b3 b1
 have U:=JB a4' b4' (by rw [b4.1];exact b1)
 rw [a4.1,b4.1] at U;have p:=Nat.mul_le_mul a2 b2
 have q:=Nat.mul_le_mul a1 b1
 have L:(rf Yg a h).1.length=(gj Yg a h).1.length * (iT Yg a h).1.length:=T.1
 refine ⟨by rw [L];exact q,by rw [L];exact p,by rw [L];exact T,by rw [L];exact U,b5,b6⟩
theorem xP {Yg:List Int} (hb:bD Yg) {a h Yi:Int} (h0:0≤a) (h1:a≤(Yg.length:Int)) (h2:1≤Yi) (h3:Yi≤8):fM Yg Yi.toNat (aP Yg a h Yi):=by
 have s:=dH (n:=5) h0 h1
 unfold aP;split
 ·exact xN (F1 hb s.1 s.2).2.2 (by omega)
 ·exact xO hb h0 h1 h2 h3
theorem m9 {Yg:List Int} {a h Yi:Int} (h2:Yi<8∨ay Yg a h 5≠2):aP Yg a h Yi=jU Yg a h Yi:=if_neg (by omega)
def nf (d:Nat) (Yg:List Int) (a:Int) (h:Int) (Yi:Int):Post:=⟨bD Yg∧Yg.length≤4096∧0≤a∧a≤(Yg.length:Int)∧1≤Yi∧(Yi≤7∧1≤d∨Yi≤8∧2≤d),.agg [.rows 57 2 .i64 ((aP Yg a h Yi).1),.ro (.rows .i64 ((aP Yg a h Yi).2.1))],[.bx [.ints .u8 (Yg),.int .i64 ((aP Yg a h Yi).2.2.1),.int .u64 ((aP Yg a h Yi).2.2.2)]]⟩
def oM (d:Nat):List AD→Option Post
 | [.box [.ints .u8 (Yg),.int .i64 (a),.int .u64 (h)],.c (.int .i64 (Yi))]=>some (nf d Yg a h Yi)
 | _=>none
def F2 (d:Nat) (Yg:List Int) (a:Int) (h:Int) (Yi:Int):Nat→Option Ann
 | 1=>some (Ann.mk ((Nat)×(Int)×(Int)) (fun x=>match x with | (i,b,g)=>⟨[(0,.c (.ptr 700 0)),(1,.c (.int .i64 (Yi))),(4,.c (.ptr 4 0)),(6,.c (.int .i64 ((i:Int))))],[(4,some (.box [.nil,.nil])),(700,some (.box [.orig 700 0 (.ints .u8 (Yg)),.int .i64 (b),.int .u64 (g)]))]⟩) (fun x=>match x with | (i,b,g)=>i≤6∧0≤b∧b≤(Yg.length:Int)∧ay Yg a h 5≠2∧aP Yg a h Yi=jT Yg Yi (6 - i) b g) (fun x=>match x with | (i,b,g)=>6 - i) (fun _=>am))
 | 1019=>some (Ann.mk ((Int)×(Int)) (fun x=>match x with | (b,g)=>⟨[(0,.c (.ptr 700 0)),(1,.c (.int .i64 (Yi))),(4,.c (.ptr 4 0))],[(4,some (.box [.nil,.nil])),(700,some (.box [.orig 700 0 (.ints .u8 (Yg)),.int .i64 (b),.int .u64 (g)]))]⟩) (fun x=>match x with | (b,g)=>0≤b∧b≤(Yg.length:Int)∧aP Yg a h Yi=kQ Yg b g (m7 Yi)) (fun x=>match x with | (b,g)=>0) (fun x=>match x with | (b,g)=>fun b_=>match b_ with | 1020=>some (Ann.mk ((Unit)) (fun u=>⟨[(0,.c (.ptr 700 0)),(4,.c (.ptr 4 0)),(11,.c (.own (11)))],[(4,some (.box [.nil,.nil])),(11,some (.tr 0 [22,57,2] (.r3 .i64 ((bI (1+ay Yg b g (m7 Yi))))))),(700,some (.box [.orig 700 0 (.ints .u8 (Yg)),.int .i64 (av Yg.length b (m7 Yi)),.int .u64 (az g (m7 Yi))]))]⟩) (fun u=>True) (fun u=>0) (fun u=>fun b_=>match b_ with | 1021=>some (Ann.mk ((Unit)) (fun u=>⟨[(0,.c (.ptr 700 0)),(4,.c (.ptr 4 0)),(12,.c (.own (12)))],[(4,some (.box [.nil,.nil])),(12,some (.rows 0 57 2 .i64 ((ax Yg b g (m7 Yi)).1))),(700,some (.box [.orig 700 0 (.ints .u8 (Yg)),.int .i64 ((ax Yg b g (m7 Yi)).2.1),.int .u64 ((ax Yg b g (m7 Yi)).2.2)]))]⟩) (fun u=>True) (fun u=>0) (fun u=>fun b_=>match b_ with | 1023=>some (Ann.mk ((Unit)) (fun u=>⟨[(0,.c (.ptr 700 0)),(4,.c (.ptr 4 0)),(12,.c (.own (114))),(14,.c (.ptr 14 0))],[(4,some (.box [.nil,.nil])),(14,some (.box [.own (114),.ro (.rows .i64 ((bS Yg (ax Yg b g (m7 Yi))).2.1))])),(114,some (.rows 0 57 2 .i64 ((bS Yg (ax Yg b g (m7 Yi))).1))),(700,some (.box [.orig 700 0 (.ints .u8 (Yg)),.int .i64 ((bS Yg (ax Yg b g (m7 Yi))).2.2.1),.int .u64 ((bS Yg (ax Yg b g (m7 Yi))).2.2.2)]))]⟩) (fun u=>True) (fun u=>0) (fun u=>fun b_=>match b_ with | 3=>some (Ann.mk ((Nat)) (fun i=>⟨[(0,.c (.ptr 700 0)),(4,.c (.ptr 4 0)),(14,.c (.ptr 14 0)),(16,.c (.own (16))),(17,.c (.own (17))),(18,.c (.int .i64 ((i:Int))))],[(4,some (.box [.nil,.nil])),(14,some (.box [.own (114),.ro (.rows .i64 ((bS Yg (ax Yg b g (m7 Yi))).2.1))])),(114,some (.rows 0 57 2 .i64 ((bS Yg (ax Yg b g (m7 Yi))).1))),(16,some (.ints 2 .i64 (bP ((bO Yg ((bS Yg (ax Yg b g (m7 Yi))).1,(bS Yg (ax Yg b g (m7 Yi))).2.2)).1.take i)))),(17,some (.ints 2 .i64 ((bO Yg ((bS Yg (ax Yg b g (m7 Yi))).1,(bS Yg (ax Yg b g (m7 Yi))).2.2)).1))),(700,some (.box [.orig 700 0 (.ints .u8 (Yg)),.int .i64 ((bO Yg ((bS Yg (ax Yg b g (m7 Yi))).1,(bS Yg (ax Yg b g (m7 Yi))).2.2)).2.1),.int .u64 ((bO Yg ((bS Yg (ax Yg b g (m7 Yi))).1,(bS Yg (ax Yg b g (m7 Yi))).2.2)).2.2)]))]⟩) (fun i=>i≤(bO Yg ((bS Yg (ax Yg b g (m7 Yi))).1,(bS Yg (ax Yg b g (m7 Yi))).2.2)).1.length∧1<((bS Yg (ax Yg b g (m7 Yi))).1.length:Int)∧ay Yg (bS Yg (ax Yg b g (m7 Yi))).2.2.1 (bS Yg (ax Yg b g (m7 Yi))).2.2.2 2=0) (fun i=>(bO Yg ((bS Yg (ax Yg b g (m7 Yi))).1,(bS Yg (ax Yg b g (m7 Yi))).2.2)).1.length - i) (fun _=>am)) | _=>none)) | _=>none)) | _=>none)) | _=>none))
 | _=>none
def F3 (t:Nat):Bool:=[3000086].contains t
def F4 (d:Nat):List (Nat×Ctr):=[(112,⟨[(0,0)],lN⟩),(190,⟨[(0,0)],qX⟩),(245,⟨[],xI⟩),(128,⟨[],uJ⟩),(246,⟨[],xK⟩),(78,⟨[],nC⟩),(166,⟨[],rB⟩),(119,⟨[(0,0)],yC⟩),(222,⟨[(0,0)],rH⟩),(182,⟨[],rJ⟩),(207,⟨[],uB⟩),(189,⟨[(0,0)],oM d⟩)]
def xQ (d:Nat) (Yg:List Int) (a:Int) (h:Int) (Yi:Int):Prop :=
 ∃x0:Int×Int,((((0:Int)≤x0.1)∧((x0.1≤(↑(Yg.length):Int))∧(aP Yg a h Yi=kQ Yg (x0.1) (x0.2) (m7 Yi))))∧((Yi=Yi)∧((Yg=Yg)∧((av (Yg.length) a (5:Int)=x0.1)∧(az h (5:Int)=x0.2)))))
def cN (Yg:List Int) (Yi:Int) (x0:Int×Int):=(bO Yg ((bS Yg (ax Yg x0.1 x0.2 (m7 Yi))).1,((bS Yg (ax Yg x0.1 x0.2 (m7 Yi))).2).2))
def gK (Yg:List Int) (a:Int) (h:Int):=(aP Yg ((((aP Yg (av (Yg.length) a (5:Int)) (az h (5:Int)) (4:Int)).2).2).1) ((((aP Yg (av (Yg.length) a (5:Int)) (az h (5:Int)) (4:Int)).2).2).2) (2:Int))
def cU (Yg:List Int) (Yi:Int) (x0:Int×Int):=((bS Yg (ax Yg x0.1 x0.2 (m7 Yi))).2)
def fN (Yg:List Int) (a:Int) (h:Int) (Yi:Int):=(dG Yg (av (Yg.length) a (5:Int)) (az h (5:Int)) Yi)
def rg (Yg:List Int) (Yi:Int) (x0:Int×Int):=(bz Yg (av (Yg.length) (((cU Yg Yi x0).2).1) (2:Int)) (az (((cU Yg Yi x0).2).2) (2:Int)) (((↑(((bS Yg (ax Yg x0.1 x0.2 (m7 Yi))).1).length):Int) - (1:Int)).toNat))
def iU (Yg:List Int) (a:Int) (h:Int):=(aP Yg (av (Yg.length) a (5:Int)) (az h (5:Int)) (4:Int))
def lK (Yg:List Int) (Yi:Int) (x0:Int×Int):=(gp ((ax Yg x0.1 x0.2 (m7 Yi)).1) (cF ((ax Yg x0.1 x0.2 (m7 Yi)).1)))
def jV (Yg:List Int) (Yi:Int) (x0:Int×Int):=(↑(((bS Yg (ax Yg x0.1 x0.2 (m7 Yi))).1).length):Int)
def xR (d:Nat) (Yg:List Int) (a:Int) (h:Int) (Yi:Int):Prop :=
 (((((bD Yg)∧(((0:Int)≤a)∧(a≤(1099511627776:Int))))∧((Yg=Yg)∧True))∧(ac (ay Yg a h (5:Int) == (0:Int)) ((((bD Yg)∧((Yg.length≤(4096:Nat))∧(((0:Int)≤av (Yg.length) a (5:Int))∧((av (Yg.length) a (5:Int)≤(↑(Yg.length):Int))∧(((1:Int)≤Yi)∧(Yi≤(8:Int)))))))∧((Yg=Yg)∧True))∧((((bD Yg)∧(((0:Int)≤((fN Yg a h Yi).2).1)∧(((fN Yg a h Yi).2).1≤(1099511627776:Int))))∧((Yg=Yg)∧True))∧(ac (ay Yg (((dG Yg (av (Yg.length) a (5:Int)) (az h (5:Int)) Yi).2).1) (((dG Yg (av (Yg.length) a (5:Int)) (az h (5:Int)) Yi).2).2) (2:Int) == (0:Int)) ((((((fN Yg a h Yi).1).length≤(144:Nat))∧(∀(x:Nat),x<((fN Yg a h Yi).1).length→(((fN Yg a h Yi).1).getD x []).length=((fN Yg a h Yi).1).length))∧True)∧((((fN Yg a h Yi).1=(aP Yg a h Yi).1)∧((eG ((fN Yg a h Yi).1)=((aP Yg a h Yi).2).1)∧True))∧(((Yg=Yg)∧((av (Yg.length) (((fN Yg a h Yi).2).1) (2:Int)=(((aP Yg a h Yi).2).2).1)∧((az (((fN Yg a h Yi).2).2) (2:Int)=(((aP Yg a h Yi).2).2).2)∧True)))∧True))) (((au ((fN Yg a h Yi).1))∧True)∧((((fN Yg a h Yi).1=(aP Yg a h Yi).1)∧(((fN Yg a h Yi).1=((aP Yg a h Yi).2).1)∧True))∧(((Yg=Yg)∧((av (Yg.length) (((fN Yg a h Yi).2).1) (2:Int)=(((aP Yg a h Yi).2).2).1) ∧
 ((az (((fN Yg a h Yi).2).2) (2:Int)=(((aP Yg a h Yi).2).2).2)∧True)))∧True)))))) (ac (ay Yg a h (5:Int) == (1:Int)) ((∃x0:Nat×Int×Int,(((x0.1≤(6:Nat))∧(((0:Int)≤x0.2.1)∧((x0.2.1≤(↑(Yg.length):Int))∧((ay Yg a h (5:Int)≠(2:Int))∧(aP Yg a h Yi=jT Yg Yi ((6:Nat) - x0.1) (x0.2.1) (x0.2.2))))))∧((Yi=Yi)∧(((0:Int)=(↑x0.1:Int))∧((Yg=Yg)∧((av (Yg.length) a (5:Int)=x0.2.1)∧(az h (5:Int)=x0.2.2)))))))∧(∀x1:Nat×Int×Int,(((x1.1≤(6:Nat))∧(((0:Int)≤x1.2.1)∧((x1.2.1≤(↑(Yg.length):Int))∧((ay Yg a h (5:Int)≠(2:Int))∧(aP Yg a h Yi=jT Yg Yi ((6:Nat) - x1.1) (x1.2.1) (x1.2.2))))))→(ac (decide ((↑x1.1:Int)<(6:Int))) ((((bD Yg)∧(((0:Int)≤x1.2.1)∧(x1.2.1≤(1099511627776:Int))))∧((Yg=Yg)∧True))∧((ab ((1:Int)+ay Yg x1.2.1 x1.2.2 Yi))∧((((bD Yg)∧(((0:Int)≤av (Yg.length) x1.2.1 Yi)∧(av (Yg.length) x1.2.1 Yi≤(1099511627776:Int))))∧((Yg=Yg)∧True))∧(((((1:Int)≤(1:Int)+ay Yg x1.2.1 x1.2.2 Yi)∧(((1:Int)+ay Yg x1.2.1 x1.2.2 Yi≤(12:Int))∧(((0:Int)≤ay Yg (av (Yg.length) x1.2.1 Yi) (az x1.2.2 Yi) ((1:Int)+ay Yg x1.2.1 x1.2.2 Yi))∧(ay Yg (av (Yg.length) x1.2.1 Yi) (az x1.2.2 Yi) ((1:Int)+ay Yg x1.2.1 x1.2.2 Yi)≤(12:Int)))))∧True)∧((((au (ak ((1:Int)+ay Yg x1.2.1 x1.2.2 Yi))) ∧
 (au (hY ((1:Int)+ay Yg x1.2.1 x1.2.2 Yi) (ay Yg (av (Yg.length) x1.2.1 Yi) (az x1.2.2 Yi) ((1:Int)+ay Yg x1.2.1 x1.2.2 Yi)))))∧True)∧(ac (aK (ak ((1:Int)+ay Yg x1.2.1 x1.2.2 Yi)) (hY ((1:Int)+ay Yg x1.2.1 x1.2.2 Yi) (ay Yg (av (Yg.length) x1.2.1 Yi) (az x1.2.2 Yi) ((1:Int)+ay Yg x1.2.1 x1.2.2 Yi)))) (((ak ((1:Int)+ay Yg x1.2.1 x1.2.2 Yi)=(aP Yg a h Yi).1)∧((hY ((1:Int)+ay Yg x1.2.1 x1.2.2 Yi) (ay Yg (av (Yg.length) x1.2.1 Yi) (az x1.2.2 Yi) ((1:Int)+ay Yg x1.2.1 x1.2.2 Yi))=((aP Yg a h Yi).2).1)∧True))∧(((Yg=Yg)∧((av (Yg.length) (av (Yg.length) x1.2.1 Yi) ((1:Int)+ay Yg x1.2.1 x1.2.2 Yi)=(((aP Yg a h Yi).2).2).1)∧((az (az x1.2.2 Yi) ((1:Int)+ay Yg x1.2.1 x1.2.2 Yi)=(((aP Yg a h Yi).2).2).2)∧True)))∧True)) ((ab ((↑x1.1:Int)+(1:Int)))∧(∃x2:Nat×Int×Int,(((x2.1≤(6:Nat))∧(((0:Int)≤x2.2.1)∧((x2.2.1≤(↑(Yg.length):Int))∧((ay Yg a h (5:Int)≠(2:Int))∧(aP Yg a h Yi=jT Yg Yi ((6:Nat) - x2.1) (x2.2.1) (x2.2.2))))))∧(((6:Nat) - x2.1<(6:Nat) - x1.1)∧((Yi=Yi)∧(((↑x1.1:Int)+(1:Int)=(↑x2.1:Int))∧((Yg=Yg)∧((av (Yg.length) (av (Yg.length) x1.2.1 Yi) ((1:Int)+ay Yg x1.2.1 x1.2.2 Yi)=x2.2.1)∧(az (az x1.2.2 Yi) ((1:Int)+ay Yg x1.2.1 x1.2.2 Yi)=x2.2.2))))))))))))))) (∃x3:Int×Int,((((0:Int)≤x3.1)∧((x3.1≤(↑(Yg.length):Int)) ∧
 (aP Yg a h Yi=kQ Yg (x3.1) (x3.2) (m7 Yi))))∧((Yi=Yi)∧((Yg=Yg)∧((x1.2.1=x3.1)∧(x1.2.2=x3.2)))))))))) (ac (ay Yg a h (5:Int) == (2:Int)) (ac (decide ((8:Int)≤Yi)) ((((bD Yg)∧((Yg.length≤(4096:Nat))∧(((0:Int)≤av (Yg.length) a (5:Int))∧((av (Yg.length) a (5:Int)≤(↑(Yg.length):Int))∧(((1:Int)≤(4:Int))∧((4:Int)≤(7:Int)∧(1:Nat)≤d∨(4:Int)≤(8:Int)∧(2:Nat)≤d))))))∧((Yg=Yg)∧True))∧((((bD Yg)∧((Yg.length≤(4096:Nat))∧(((0:Int)≤(((iU Yg a h).2).2).1)∧(((((iU Yg a h).2).2).1≤(↑(Yg.length):Int))∧(((1:Int)≤(2:Int))∧((2:Int)≤(7:Int)∧(1:Nat)≤d∨(2:Int)≤(8:Int)∧(2:Nat)≤d))))))∧((Yg=Yg)∧True))∧((((ba (((iU Yg a h).1).length) ((iU Yg a h).1))∧((ba (((gK Yg a h).1).length) ((gK Yg a h).1))∧(((1:Nat)≤((gK Yg a h).1).length)∧((((iU Yg a h).1).length≤(144:Nat))∧(((gK Yg a h).1).length≤(144:Nat))))))∧True)∧((((ba ((((iU Yg a h).2).1).length) (((iU Yg a h).2).1))∧((ba ((((gK Yg a h).2).1).length) (((gK Yg a h).2).1))∧(((1:Nat)≤(((gK Yg a h).2).1).length)∧(((((iU Yg a h).2).1).length≤(144:Nat))∧((((gK Yg a h).2).1).length≤(144:Nat))))))∧True)∧(((bp ((iU Yg a h).1) ((gK Yg a h).1)=(aP Yg a h Yi).1) ∧
 ((bp (((iU Yg a h).2).1) (((gK Yg a h).2).1)=((aP Yg a h Yi).2).1)∧True))∧(((Yg=Yg)∧(((((gK Yg a h).2).2).1=(((aP Yg a h Yi).2).2).1)∧(((((gK Yg a h).2).2).2=(((aP Yg a h Yi).2).2).2)∧True)))∧True)))))) (xQ d Yg a h Yi)) (xQ d Yg a h Yi)))))∧(∀x6:Int×Int,((((0:Int)≤x6.1)∧((x6.1≤(↑(Yg.length):Int))∧(aP Yg a h Yi=kQ Yg (x6.1) (x6.2) (m7 Yi))))→(((((bD Yg)∧(((0:Int)≤x6.1)∧(x6.1≤(1099511627776:Int))))∧((Yg=Yg)∧True))∧((ab ((1:Int)+ay Yg x6.1 x6.2 (if (7:Int)<Yi then (7:Int) else Yi)))∧(((((1:Int)≤(1:Int)+ay Yg x6.1 x6.2 (if (7:Int)<Yi then (7:Int) else Yi))∧((1:Int)+ay Yg x6.1 x6.2 (if (7:Int)<Yi then (7:Int) else Yi)≤(8:Int)))∧True)∧(∃x7:Unit,(True∧((bI ((1:Int)+ay Yg x6.1 x6.2 (if (7:Int)<Yi then (7:Int) else Yi))=bI ((1:Int)+ay Yg x6.1 x6.2 (m7 Yi)))∧((Yg=Yg)∧((av (Yg.length) x6.1 (if (7:Int)<Yi then (7:Int) else Yi)=av (Yg.length) x6.1 (m7 Yi))∧(az x6.2 (if (7:Int)<Yi then (7:Int) else Yi)=az x6.2 (m7 Yi))))))))))∧(∀x8:Unit,(True→(((((bD Yg)∧(((0:Int)≤av (Yg.length) x6.1 (m7 Yi))∧(av (Yg.length) x6.1 (m7 Yi)≤(1099511627776:Int))))∧((Yg=Yg)∧True)) ∧
 ((aa (ay Yg (av (Yg.length) x6.1 (m7 Yi)) (az x6.2 (m7 Yi)) (↑(FC.len (FC.r3 IntKind.i64 (bI ((1:Int)+ay Yg x6.1 x6.2 (m7 Yi))))):Int)) (FC.len (FC.r3 IntKind.i64 (bI ((1:Int)+ay Yg x6.1 x6.2 (m7 Yi))))))∧(∃x9:Unit,(True∧(((bI ((1:Int)+ay Yg x6.1 x6.2 (m7 Yi))).getD ((ay Yg (av (Yg.length) x6.1 (m7 Yi)) (az x6.2 (m7 Yi)) (↑(FC.len (FC.r3 IntKind.i64 (bI ((1:Int)+ay Yg x6.1 x6.2 (m7 Yi))))):Int)).toNat) ([]:List (List Int))=(ax Yg x6.1 x6.2 (m7 Yi)).1)∧((Yg=Yg)∧((av (Yg.length) (av (Yg.length) x6.1 (m7 Yi)) (↑(FC.len (FC.r3 IntKind.i64 (bI ((1:Int)+ay Yg x6.1 x6.2 (m7 Yi))))):Int)=((ax Yg x6.1 x6.2 (m7 Yi)).2).1)∧(az (az x6.2 (m7 Yi)) (↑(FC.len (FC.r3 IntKind.i64 (bI ((1:Int)+ay Yg x6.1 x6.2 (m7 Yi))))):Int)=((ax Yg x6.1 x6.2 (m7 Yi)).2).2))))))))∧(∀x10:Unit,(True→((((aW ((ax Yg x6.1 x6.2 (m7 Yi)).1)=true)∧((AuOk (((ax Yg x6.1 x6.2 (m7 Yi)).1).length) (cF ((ax Yg x6.1 x6.2 (m7 Yi)).1)))∧(((cF ((ax Yg x6.1 x6.2 (m7 Yi)).1)).length≤(100:Nat))∧(((ax Yg x6.1 x6.2 (m7 Yi)).1).length≤(7:Nat)))))∧((List.map List.length ((ax Yg x6.1 x6.2 (m7 Yi)).1)=List.map List.length ((ax Yg x6.1 x6.2 (m7 Yi)).1))∧True))∧(((((bD Yg)∧(((0:Int)≤((ax Yg x6.1 x6.2 (m7 Yi)).2).1)∧(((ax Yg x6.1 x6.2 (m7 Yi)).2).1≤(1099511627776:Int))))∧((Yg=Yg)∧True)) ∧
 ((aa (ay Yg (((ax Yg x6.1 x6.2 (m7 Yi)).2).1) (((ax Yg x6.1 x6.2 (m7 Yi)).2).2) (↑((lK Yg Yi x6).length):Int)) ((lK Yg Yi x6).length))∧(∃x11:Unit,(True∧(((lK Yg Yi x6).getD ((ay Yg (((ax Yg x6.1 x6.2 (m7 Yi)).2).1) (((ax Yg x6.1 x6.2 (m7 Yi)).2).2) (↑((lK Yg Yi x6).length):Int)).toNat) ([]:List (List Int))=(cU Yg Yi x6).1)∧(((ax Yg x6.1 x6.2 (m7 Yi)).1=(bS Yg (ax Yg x6.1 x6.2 (m7 Yi))).1)∧((Yg=Yg)∧((av (Yg.length) (((ax Yg x6.1 x6.2 (m7 Yi)).2).1) (↑((lK Yg Yi x6).length):Int)=((cU Yg Yi x6).2).1)∧(az (((ax Yg x6.1 x6.2 (m7 Yi)).2).2) (↑((lK Yg Yi x6).length):Int)=((cU Yg Yi x6).2).2)))))))))∧(∀x12:Unit,(True→(ac (decide ((1:Int)<(↑(((bS Yg (ax Yg x6.1 x6.2 (m7 Yi))).1).length):Int))) ((((bD Yg)∧(((0:Int)≤((cU Yg Yi x6).2).1)∧(((cU Yg Yi x6).2).1≤(1099511627776:Int))))∧((Yg=Yg)∧True))∧(ac (ay Yg ((((bS Yg (ax Yg x6.1 x6.2 (m7 Yi))).2).2).1) ((((bS Yg (ax Yg x6.1 x6.2 (m7 Yi))).2).2).2) (2:Int) == (0:Int)) ((ab ((jV Yg Yi x6) - (1:Int)))∧((((bD Yg)∧(((0:Int)≤av (Yg.length) (((cU Yg Yi x6).2).1) (2:Int))∧((av (Yg.length) (((cU Yg Yi x6).2).1) (2:Int)≤(↑(Yg.length):Int))∧((Yg.length≤(4096:Nat))∧(((0:Int)≤(jV Yg Yi x6) - (1:Int)) ∧
 ((jV Yg Yi x6) - (1:Int)≤(144:Int)))))))∧((Yg=Yg)∧True))∧((∃x13:Nat,(((x13≤((cN Yg Yi x6).1).length)∧(((1:Int)<(jV Yg Yi x6))∧(ay Yg (((cU Yg Yi x6).2).1) (((cU Yg Yi x6).2).2) (2:Int)=(0:Int))))∧(((0:Int)=(↑x13:Int))∧(((cU Yg Yi x6).1=(cU Yg Yi x6).1)∧(((bS Yg (ax Yg x6.1 x6.2 (m7 Yi))).1=(bS Yg (ax Yg x6.1 x6.2 (m7 Yi))).1)∧(([(0:Int)]=bP (List.take x13 ((cN Yg Yi x6).1)))∧(((rg Yg Yi x6).1=(cN Yg Yi x6).1)∧((Yg=Yg)∧((((rg Yg Yi x6).2).1=((cN Yg Yi x6).2).1)∧(((rg Yg Yi x6).2).2=((cN Yg Yi x6).2).2))))))))))∧(∀x14:Nat,(((x14≤((cN Yg Yi x6).1).length)∧(((1:Int)<(jV Yg Yi x6))∧(ay Yg (((cU Yg Yi x6).2).1) (((cU Yg Yi x6).2).2) (2:Int)=(0:Int))))→(ac (decide ((↑x14:Int)<(↑(((bO Yg ((bS Yg (ax Yg x6.1 x6.2 (m7 Yi))).1,((bS Yg (ax Yg x6.1 x6.2 (m7 Yi))).2).2)).1).length):Int))) ((aa (↑x14:Int) (((cN Yg Yi x6).1).length))∧((ab (((cN Yg Yi x6).1).getD ((↑x14:Int).toNat) (0:Int)+(1:Int)))∧((ae ((bP (List.take x14 ((cN Yg Yi x6).1))).length+[((cN Yg Yi x6).1).getD ((↑x14:Int).toNat) (0:Int)+(1:Int)].length))∧((ab ((↑x14:Int)+(1:Int)))∧(∃x15:Nat,(((x15≤((cN Yg Yi x6).1).length) ∧
 (((1:Int)<(jV Yg Yi x6))∧(ay Yg (((cU Yg Yi x6).2).1) (((cU Yg Yi x6).2).2) (2:Int)=(0:Int))))∧((((cN Yg Yi x6).1).length - x15<((cN Yg Yi x6).1).length - x14)∧(((↑x14:Int)+(1:Int)=(↑x15:Int))∧(((cU Yg Yi x6).1=(cU Yg Yi x6).1)∧(((bS Yg (ax Yg x6.1 x6.2 (m7 Yi))).1=(bS Yg (ax Yg x6.1 x6.2 (m7 Yi))).1)∧((bP (List.take x14 ((cN Yg Yi x6).1))++[((cN Yg Yi x6).1).getD ((↑x14:Int).toNat) (0:Int)+(1:Int)]=bP (List.take x15 ((cN Yg Yi x6).1)))∧(((cN Yg Yi x6).1=(cN Yg Yi x6).1)∧((Yg=Yg)∧((((cN Yg Yi x6).2).1=((cN Yg Yi x6).2).1)∧(((cN Yg Yi x6).2).2=((cN Yg Yi x6).2).2))))))))))))))) ((((au ((bS Yg (ax Yg x6.1 x6.2 (m7 Yi))).1))∧((((bS Yg (ax Yg x6.1 x6.2 (m7 Yi))).1).length≤(144:Nat))∧((gL (jV Yg Yi x6) ((bS Yg (ax Yg x6.1 x6.2 (m7 Yi))).1))∧(((bP (List.take x14 ((cN Yg Yi x6).1))).length=((bS Yg (ax Yg x6.1 x6.2 (m7 Yi))).1).length)∧(∀(i:Nat),i<(bP (List.take x14 ((cN Yg Yi x6).1))).length→(0:Int)≤(bP (List.take x14 ((cN Yg Yi x6).1))).getD i (0:Int)∧(bP (List.take x14 ((cN Yg Yi x6).1))).getD i (0:Int)≤(jV Yg Yi x6) - (1:Int))))))∧True)∧((((au ((cU Yg Yi x6).1)) ∧
 ((((cU Yg Yi x6).1).length≤(144:Nat))∧((gL (↑(((cU Yg Yi x6).1).length):Int) ((cU Yg Yi x6).1))∧(((bP (List.take x14 ((cN Yg Yi x6).1))).length=((cU Yg Yi x6).1).length)∧(∀(i:Nat),i<(bP (List.take x14 ((cN Yg Yi x6).1))).length→(0:Int)≤(bP (List.take x14 ((cN Yg Yi x6).1))).getD i (0:Int)∧(bP (List.take x14 ((cN Yg Yi x6).1))).getD i (0:Int)≤(↑(((cU Yg Yi x6).1).length):Int) - (1:Int))))))∧True)∧(((cV ((bS Yg (ax Yg x6.1 x6.2 (m7 Yi))).1) (bP (List.take x14 ((cN Yg Yi x6).1))) (((bS Yg (ax Yg x6.1 x6.2 (m7 Yi))).1).length)=(aP Yg a h Yi).1)∧((cV ((cU Yg Yi x6).1) (bP (List.take x14 ((cN Yg Yi x6).1))) (((cU Yg Yi x6).1).length)=((aP Yg a h Yi).2).1)∧True))∧(((Yg=Yg)∧((((cN Yg Yi x6).2).1=(((aP Yg a h Yi).2).2).1)∧((((cN Yg Yi x6).2).2=(((aP Yg a h Yi).2).2).2)∧True)))∧True)))))))))) ((((bS Yg (ax Yg x6.1 x6.2 (m7 Yi))).1=(aP Yg a h Yi).1)∧(((cU Yg Yi x6).1=((aP Yg a h Yi).2).1)∧True))∧(((Yg=Yg)∧((av (Yg.length) (((cU Yg Yi x6).2).1) (2:Int)=(((aP Yg a h Yi).2).2).1)∧((az (((cU Yg Yi x6).2).2) (2:Int)=(((aP Yg a h Yi).2).2).2)∧True)))∧True)))) ((((bS Yg (ax Yg x6.1 x6.2 (m7 Yi))).1=(aP Yg a h Yi).1) ∧
 (((cU Yg Yi x6).1=((aP Yg a h Yi).2).1)∧True))∧(((Yg=Yg)∧((((cU Yg Yi x6).2).1=(((aP Yg a h Yi).2).2).1)∧((((cU Yg Yi x6).2).2=(((aP Yg a h Yi).2).2).2)∧True)))∧True))))))))))))))))
theorem NC (d:Nat) (Yg:List Int) (a:Int) (h:Int) (Yi:Int):aC Tryz.prog (af (F4 d)) F3 (F2 (d+1) Yg a h Yi) Tryz.f189 (aE Tryz.f189) [(0,0)] [.box [.ints .u8 (Yg),.int .i64 (a),.int .u64 (h)],.c (.int .i64 (Yi))] (nf (d+1) Yg a h Yi)=xR d Yg a h Yi:=by kernel_rfl
theorem ND (d:Nat) (Yg:List Int) (a:Int) (h:Int) (Yi:Int) (Yh:(nf (d+1) Yg a h Yi).pre):xR d Yg a h Yi:=by
 simp only [nf,xR,xQ,cN,gK,cU,fN,rg,iU,lK,jV,aG,u1,u2,u3,u4,u5,u6,u7,u8,u9,v1,v2,v3,v4,v5,v6,v7,v8,v9,w1,w2,w3,w4,aH,aa,ab,ae,ar] at Yh ⊢;simp only [FC.len];obtain ⟨hb,hc,h0,h1,h2,hd⟩:=Yh;have h3:Yi≤8:=by omega
 obtain ⟨m1,m2,m3⟩:=xM h2;have s:=dH (n:=5) h0 h1
 refine ⟨⟨⟨hb,h0,by omega⟩,fun z=>?_,fun z=>⟨fun z2=>⟨⟨⟨0,av Yg.length a 5,az h 5⟩,⟨by dsimp only;omega,s.1,s.2,by omega,?_⟩,rfl,rfl,rfl⟩,fun ⟨i,b,g⟩ ⟨i1,i2,i3,i5,i4⟩=>?_⟩,fun z2=>⟨fun z3=>⟨fun y=>?_,fun y=>⟨⟨av Yg.length a 5,az h 5⟩,⟨s.1,s.2,?_⟩,rfl,rfl⟩⟩,fun z3=>⟨⟨av Yg.length a 5,az h 5⟩,⟨s.1,s.2,?_⟩,rfl,rfl⟩⟩⟩⟩,fun ⟨b,g⟩ ⟨b1,b2,b3⟩=>?_⟩
 ·obtain ⟨K,_⟩:=m6 hb (h:=az h 5) s.1 s.2 h2 h3
  obtain ⟨k1,k2,k3,k4,k5⟩:=xE hb K;have e:aP Yg a h Yi=rb Yg (dG Yg (av Yg.length a 5) (az h 5) Yi):=(m9 (.inr (by omega))).trans (if_pos z)
  have e2:iR Yg (ax Yg (av Yg.length a 5) (az h 5) Yi)=dG Yg (av Yg.length a 5) (az h 5) Yi:=rfl
  rw [e2] at k1 k2 k3 k4 k5;rw [e];generalize dG Yg (av Yg.length a 5) (az h 5) Yi=d at *
  refine ⟨⟨hb,hc,s.1,s.2,h2,h3⟩,⟨hb,k4,by omega⟩,fun y=>⟨⟨by omega,fun x hx=>(k3.2 x hx).1⟩,⟨rfl,?_⟩,rfl,rfl⟩,fun y=>⟨nq (jr k3) (by omega),⟨rfl,?_⟩,rfl,rfl⟩⟩
  ·unfold rb;rw [if_pos y]
  ·unfold rb;rw [if_neg y]
 ·dsimp only;rw [m9 (.inr (by omega)),jU,if_neg z,if_pos z2]
 ·dsimp only at i1 i2 i3 i4 ⊢
  refine ⟨fun hi=>?_,fun hi=>⟨⟨b,g⟩,⟨i2,i3,?_⟩,rfl,rfl⟩⟩
  ·obtain ⟨r1,r2,r3,r4,r5,r6⟩:=FZ hb (h:=g) i2 i3 h2
   have s2:=dH (n:=Yi) i2 i3
   have e1:1+ay Yg b g Yi=eH Yg Yi b g:=rfl
   rw [e1];have e2:ay Yg (av Yg.length b Yi) (az g Yi) (eH Yg Yi b g)=oL Yg Yi b g:=rfl
   have e3:av Yg.length (av Yg.length b Yi) (eH Yg Yi b g)=m8 Yg Yi b g:=rfl
   have e4:az (az g Yi) (eH Yg Yi b g)=re Yg Yi b g:=rfl
   rw [e2,e3,e4];have L:=nh r1
   have T1:=rz r1
   have T2:=FS r1 r3
   rw [show 6 - i=(5 - i)+1 by omega,jT] at i4
   refine ⟨⟨hb,i2,by omega⟩,by omega,⟨hb,s2.1,by omega⟩,⟨r1,by omega,r3,by omega⟩,⟨nq (jr T1) (by omega),nq (jr T2) (by omega)⟩,fun y=>?_,fun y=>⟨by omega,⟨i+1,m8 Yg Yi b g,re Yg Yi b g⟩,⟨by dsimp only;omega,r5,r6,i5,?_⟩,by dsimp only;omega,by dsimp only;omega,rfl,rfl⟩⟩
   ·rw [if_pos y] at i4;rw [i4];exact ⟨⟨rfl,rfl⟩,rfl,rfl⟩
   ·rw [if_neg (by rw [y];simp)] at i4;dsimp only;rw [i4,show 6 - (i+1)=5 - i by omega]
  ·dsimp only;rw [i4,show 6 - i=0 by omega];rfl
 ·obtain ⟨A,B,_⟩:=F1 hb (h:=az h 5) s.1 s.2
  have e1:aP Yg (av Yg.length a 5) (az h 5) 4=gj Yg (av Yg.length a 5) (az h 5):=m9 (.inl (by omega))
  rw [e1];have e2:aP Yg (gj Yg (av Yg.length a 5) (az h 5)).2.2.1 (gj Yg (av Yg.length a 5) (az h 5)).2.2.2 2=iT Yg (av Yg.length a 5) (az h 5):=m9 (.inl (by omega))
  rw [e2];have e3:aP Yg a h Yi=rf Yg (av Yg.length a 5) (az h 5):=if_pos ⟨z3,y⟩
  rw [e3];obtain ⟨a1,a2,a3,a4,a5,a6⟩:=A;obtain ⟨b1,b2,b3,b4,b5,b6⟩:=B;have al:=a4.1
  have bl:=b4.1
  have a4':ba (gj Yg (av Yg.length a 5) (az h 5)).2.1.length (gj Yg (av Yg.length a 5) (az h 5)).2.1:=by rw [al];exact a4
  have b4':ba (iT Yg (av Yg.length a 5) (az h 5)).2.1.length (iT Yg (av Yg.length a 5) (az h 5)).2.1:=by rw [bl];exact b4
  exact ⟨⟨hb,hc,s.1,s.2,by omega,by omega⟩,⟨hb,hc,a5,a6,by omega,by omega⟩,⟨a3,b3,b1,by omega,by omega⟩,⟨a4',b4',by omega,by omega,by omega⟩,⟨rfl,rfl⟩,rfl,rfl⟩
 ·dsimp only;rw [m9 (.inl (by omega)),jU,if_neg z,if_neg z2]
 ·dsimp only;rw [m9 (.inr z3),jU,if_neg z,if_neg z2]
 ·dsimp only at b1 b2 b3 ⊢
  have hm:(if 7<Yi then 7 else Yi)=m7 Yi:=rfl
  rw [hm];generalize m7 Yi=mm at *
  have v:=gk hb b g m1
  have sb:=dH (n:=mm) b1 b2
  obtain ⟨K,mem,w1,w2⟩:=m6 hb (h:=g) b1 b2 m1 (by omega)
  refine ⟨⟨⟨hb,b1,by omega⟩,by omega,by omega,⟨⟩,rfl,rfl,rfl⟩,fun _ _=>⟨⟨⟨hb,sb.1,by omega⟩,⟨w1,w2⟩,⟨⟩,rfl,rfl,rfl⟩,fun _ _=>?_⟩⟩
  have D:=FX hb (n:=1+ay Yg b g mm) (by omega) (by omega) mem K (by omega)
  have bF:kQ Yg b g mm=js Yg (bS Yg (ax Yg b g mm)):=rfl
  rw [b3,bF];generalize ax Yg b g mm=d at *
  obtain ⟨k1,k2,k3,k4,k5⟩:=K;obtain ⟨D0,D1,D2,D3,D4⟩:=D;refine ⟨⟨D2,D3,D4,by omega⟩,⟨⟨hb,k4,by omega⟩,D1,⟨⟩,rfl,rfl,rfl,rfl⟩,fun _ _=>?_⟩
  generalize bS Yg d=x at *
  have P:=qV hb (FW D0)
  obtain ⟨x1,x2,x3,x4,x5,x6⟩:=D0;have sx:=dH (n:=2) x5 x6
  refine ⟨fun z=>⟨⟨hb,x5,by omega⟩,fun y=>⟨by omega,⟨hb,sx.1,sx.2,hc,by omega,by omega⟩,⟨0,⟨by omega,z,y⟩,rfl,rfl,rfl,rfl,rfl⟩,fun i ⟨hi,_,_⟩=>⟨fun gi=>?_,fun gi=>?_⟩⟩,fun y=>?_⟩,fun z=>?_⟩
  ·have:=P.1.2 i (by omega)
   have pl:=P.1.1
   dsimp only at pl;refine ⟨by omega,by omega,by simp [bP];omega,by omega,i+1,⟨by omega,z,y⟩,by omega,by omega,FJ (by omega)⟩
  ·rw [List.take_of_length_le (by omega)]
   obtain ⟨q1,q2⟩:=qU P.1.1 P.1.2;dsimp only at q1 q2;have R:js Yg x=(cV x.1 (bP (bO Yg (x.1,x.2.2)).1) x.1.length,cV x.2.1 (bP (bO Yg (x.1,x.2.2)).1) x.2.1.length,(bO Yg (x.1,x.2.2)).2):=by unfold js;rw [if_pos z,if_pos y]
   rw [R];have xl:=x4.1
   have T4:ba x.2.1.length x.2.1:=by rw [xl];exact x4
   refine ⟨⟨nq (jr x3) (by omega),by omega,jr x3,q1,q2⟩,⟨nq (jr x4) (by omega),by omega,jr T4,by omega,by rw [xl];exact q2⟩,⟨rfl,rfl⟩,rfl,rfl⟩
  ·have R:js Yg x=(x.1,x.2.1,av Yg.length x.2.2.1 2,az x.2.2.2 2):=by unfold js;rw [if_pos z,if_neg y]
   rw [R];exact ⟨⟨rfl,rfl⟩,rfl,rfl⟩
  ·have R:js Yg x=x:=by unfold js;rw [if_neg z]
   rw [R];exact ⟨⟨rfl,rfl⟩,rfl,rfl⟩
theorem NE (Yg:List Int) (a:Int) (h:Int) (Yi:Int) (h:(nf 0 Yg a h Yi).pre):False:=by
 simp only [nf] at h;omega
theorem NF (d:Nat):Fits Tryz.prog 189 ⟨[(0,0)],oM d⟩:=by
 induction d with
 | zero =>
  refine Fo ⟨Tryz.f189,Tryz.func189,by kernel_rfl,by kernel_rfl⟩ (by decide) fun ds p h hp=>?_
  unfold oM at h;split at h
  ·cases h
   exact NE _ _ _ _  hp
  ·cases h
 | succ d ih =>
  refine xo (Γ:=af (F4 d)) (aj oQ (aj FN (aj Nv (aj JV (aj NA (aj te (aj Gl (aj Oa (aj Gy (aj GB (aj JE (aj ih aF)))))))))))) Tryz.func189 (by kernel_rfl) (by kernel_rfl) (by kernel_rfl) fun ds p h hp=>?_
  unfold oM at h;split at h
  ·cases h
   exact ⟨F3,F2 _ _ _ _ _ ,by rw [NC];exact ND _ _ _ _ _  hp⟩
  ·cases h
end Go.Sx
