/- Star -/
import Derived.Test.YtcdmndagoafcgaaGreatCirP
import Derived.Test.YtcdmndagoafcgaaGreatBrdC
import Derived.Test.YtcdmndagoafcgaaGreatNamD
import Derived.Test.YtcdmndagoafcgaaGreatSoc
open Go Go.Proofs
namespace Go.Sx
set_option linter.unusedSimpArgs false
set_option linter.unusedVariables false
def vh (Yg:List Int):Post:=⟨True,.c (.bool (decide (4096<(Yg.length:Int)))),[]⟩
def Cu:List AD→Option Post
 | [.c (.ints .u8 (Yg))]=>some (vh Yg)
 | _=>none
def Kr:List (Nat×Ctr):=[]
def Cw (Yg:List Int):Prop :=
 ((decide ((4096:Int)<(↑(Yg.length):Int))=decide ((4096:Int)<(↑(Yg.length):Int)))∧True)
theorem Ue (Yg:List Int):aC Tryz.prog (af Kr) ah am Tryz.f19 (aE Tryz.f19) [] [.c (.ints .u8 (Yg))] (vh Yg)=Cw Yg:=by kernel_rfl
theorem Uf (Yg:List Int) (Yh:(vh Yg).pre):Cw Yg:=by
 simp only [vh,Cw,aG,u1,u2,u3,u4,u5,u6,u7,u8,u9,v1,v2,v3,v4,v5,v6,v7,v8,v9,w1,w2,w3,w4,aH,aa,ab,ae,ar] at Yh ⊢
theorem Ug:Fits Tryz.prog 19 ⟨[],Cu⟩:=by
 refine aJ (Γ:=af Kr) aF Tryz.func19 fun ds p h hp=>?_
 unfold Cu at h;split at h
 ·cases h
  exact ⟨ah,am,by rw [Ue];exact Uf _  hp⟩
 ·cases h
def vj (a:List Int) (b:List Int):Post:=⟨ae a.length,.c (.bool (decide (a=b))),[]⟩
def Cy:List AD→Option Post
 | [.c (.ints .i64 (a)),.c (.ints .i64 (b))]=>some (vj a b)
 | _=>none
def Ks (a:List Int) (b:List Int):Nat→Option Ann
 | 0=>some (Ann.mk ((Nat)) (fun i=>⟨[(0,.c (.ro (.ints .i64 (a)))),(1,.c (.ro (.ints .i64 (b)))),(5,.c (.int .i64 ((i:Int))))],[]⟩) (fun i=>i≤a.length∧a.length=b.length∧a.take i=b.take i) (fun i=>a.length - i) (fun _=>am))
 | _=>none
def Kt:List (Nat×Ctr):=[]
def Cz (a:List Int) (b:List Int):Prop :=
 (ac ((↑(a.length):Int) != (↑(b.length):Int)) ((false=decide (a=b))∧True) ((∃x0:Nat,(((x0≤a.length)∧((a.length=b.length)∧(List.take x0 a=List.take x0 b)))∧((a=a)∧((b=b)∧((0:Int)=(↑x0:Int))))))∧(∀x1:Nat,(((x1≤a.length)∧((a.length=b.length)∧(List.take x1 a=List.take x1 b)))→(ac (decide ((↑x1:Int)<(↑(a.length):Int))) ((aa (↑x1:Int) (a.length))∧((aa (↑x1:Int) (b.length))∧(ac (a.getD ((↑x1:Int).toNat) (0:Int) != b.getD ((↑x1:Int).toNat) (0:Int)) ((false=decide (a=b))∧True) ((ab ((↑x1:Int)+(1:Int)))∧(∃x2:Nat,(((x2≤a.length)∧((a.length=b.length)∧(List.take x2 a=List.take x2 b)))∧((a.length - x2<a.length - x1)∧((a=a)∧((b=b)∧((↑x1:Int)+(1:Int)=(↑x2:Int))))))))))) ((true=decide (a=b))∧True))))))
theorem Uh (a:List Int) (b:List Int):aC Tryz.prog (af Kt) ah (Ks a b) Tryz.f64 (aE Tryz.f64) [] [.c (.ints .i64 (a)),.c (.ints .i64 (b))] (vj a b)=Cz a b:=by kernel_rfl
theorem Ui (a:List Int) (b:List Int) (Yh:(vj a b).pre):Cz a b:=by
 simp only [vj,Cz,aG,u1,u2,u3,u4,u5,u6,u7,u8,u9,v1,v2,v3,v4,v5,v6,v7,v8,v9,w1,w2,w3,w4,aH,aa,ab,ae,ar] at Yh ⊢;refine ⟨fun h=>?_,fun h=>⟨⟨0,⟨by omega,by omega,rfl⟩,by simp⟩,fun i hi=>⟨fun h1=>⟨by omega,by omega,fun h2=>?_,fun h2=>⟨by omega,i+1,⟨by omega,hi.2.1,?_⟩,by omega,by omega⟩⟩,fun h1=>?_⟩⟩⟩
 ·exact (decide_eq_false fun e=>h (by rw [e])).symm
 ·exact (decide_eq_false fun e=>h2 (by rw [e])).symm
 ·exact (Fq a b 0 i (by omega) (by omega) hi.2.2).2 h2
 ·refine (decide_eq_true ?_).symm
  have:=hi.2.2
  rwa [List.take_of_length_le (by omega),List.take_of_length_le (by omega)] at this
theorem Uj:Fits Tryz.prog 64 ⟨[],Cy⟩:=by
 refine aJ (Γ:=af Kt) aF Tryz.func64 fun ds p h hp=>?_
 unfold Cy at h;split at h
 ·cases h
  exact ⟨ah,Ks _ _ ,by rw [Uh];exact Ui _ _  hp⟩
 ·cases h
def CA (Yg:List Int) (b:Bd):Int:=ay Yg b.2.2.1 b.2.2.2 24
def gb (Yg:List Int) (b:Bd):Int:=av Yg.length b.2.2.1 24
def gA (b:Bd):Int:=az b.2.2.2 24
def pV (Yg:List Int) (b:Bd):Int:=ay Yg (gb Yg b) (gA b) (b.1.length:Int)
def Ku (Yg:List Int) (b:Bd):Int:=ay Yg (av Yg.length (gb Yg b) (b.1.length:Int)) (az (gA b) (b.1.length:Int)) (b.1.length:Int)
def Kv (Yg:List Int) (b:Bd):Int:=ay Yg (av Yg.length (av Yg.length (gb Yg b) (b.1.length:Int)) (b.1.length:Int)) (az (az (gA b) (b.1.length:Int)) (b.1.length:Int)) ((b.1.length:Int)+1)
def gB (Yg:List Int) (b:Bd):Bd :=
 if CA Yg b=0 then (b.1,(dG Yg (gb Yg b) (gA b) (b.1.length:Int)).1,(dG Yg (gb Yg b) (gA b) (b.1.length:Int)).2)
 else if CA Yg b=1 then (b.1.set (pV Yg b).toNat ((b.1.getD (pV Yg b).toNat []).set (Ku Yg b).toNat (Kv Yg b)),b.2.1,
  av Yg.length (av Yg.length (av Yg.length (gb Yg b) (b.1.length:Int)) (b.1.length:Int)) ((b.1.length:Int)+1),az (az (az (gA b) (b.1.length:Int)) (b.1.length:Int)) ((b.1.length:Int)+1))
 else if CA Yg b=2 then (b.1,b.2.1.drop 1,gb Yg b,gA b)
 else (b.1,b.2.1,gb Yg b,gA b)
def dn (Yg:List Int) (a h Yi:Int):Bd:=gB Yg (aP Yg a h Yi)
theorem Kw {Yg:List Int} (hb:bD Yg) {m:Nat} {b:Bd} (h:fM Yg m b) (hm:m≤8):au (gB Yg b).1∧au (gB Yg b).2.1∧(gB Yg b).1.length≤m∧(gB Yg b).2.1.length≤m∧0≤(gB Yg b).2.2.1∧(gB Yg b).2.2.1≤(Yg.length:Int):=by
 obtain ⟨b1,b2,b3,b4,b5,b6⟩:=h;have s:=dH (n:=24) b5 b6
 have A1:0≤gb Yg b∧gb Yg b≤(Yg.length:Int):=s
 have R1:=pO b3 (by omega)
 have R2:=pO b4 (by omega)
 have l4:=b4.1
 unfold gB;split
 ·obtain ⟨K,_⟩:=m6 hb (h:=gA b) A1.1 A1.2 (Yi:=(b.1.length:Int)) (by omega) (by omega)
  obtain ⟨k1,k2,k3,k4,k5⟩:=xE hb K;exact ⟨R1,pO k3 (by omega),b2,Nat.le_trans k2 (by omega),k4,k5⟩
 ·split
  ·have s2:=dH (n:=(b.1.length:Int)) A1.1 A1.2
   have s3:=dH (n:=(b.1.length:Int)) s2.1 s2.2
   have s4:=dH (n:=(b.1.length:Int)+1) s3.1 s3.2
   refine ⟨⟨by rw [List.length_set];exact R1.1,fun r hr=>?_⟩,R2,by rw [List.length_set];exact b2,Nat.le_trans (Nat.le_of_eq l4) b2,s4.1,s4.2⟩
   rcases List.mem_or_eq_of_mem_set hr with hr | rfl
   ·exact R1.2 r hr
   ·rw [List.length_set]
    by_cases q:(pV Yg b).toNat<b.1.length
    ·exact R1.2 _ (cE _ [] _ q)
    ·rw [List.getD_eq_getElem?_getD,List.getElem?_eq_none (by omega)];simp
  ·split
   ·have dl:(b.2.1.drop 1).length≤m:=by rw [List.length_drop];omega
    exact ⟨R1,⟨Nat.le_trans dl (by omega),fun r hr=>R2.2 r (List.mem_of_mem_drop hr)⟩,b2,dl,A1.1,A1.2⟩
   ·exact ⟨R1,R2,b2,Nat.le_trans (Nat.le_of_eq l4) b2,A1.1,A1.2⟩
def vn (Yg:List Int) (a:Int) (h:Int) (Yi:Int):Post:=⟨bD Yg∧Yg.length≤4096∧0≤a∧a≤(Yg.length:Int)∧1≤Yi∧Yi≤8,.agg [.rows 57 2 .i64 ((dn Yg a h Yi).1),.ro (.rows .i64 ((dn Yg a h Yi).2.1))],[.bx [.ints .u8 (Yg),.int .i64 ((dn Yg a h Yi).2.2.1),.int .u64 ((dn Yg a h Yi).2.2.2)]]⟩
def CB:List AD→Option Post
 | [.box [.ints .u8 (Yg),.int .i64 (a),.int .u64 (h)],.c (.int .i64 (Yi))]=>some (vn Yg a h Yi)
 | _=>none
def Kx (Yg:List Int) (a:Int) (h:Int) (Yi:Int):Nat→Option Ann
 | 1002=>some (Ann.mk ((Unit)) (fun u=>⟨[(0,.c (.ptr 700 0)),(4,.c (.ptr 4 0)),(5,.c (.ptr 5 0))],[(4,some (.box [.nil,.nil])),(5,some (.box [.own (105),.ro (.rows .i64 ((aP Yg a h Yi).2.1))])),(105,some (.rows 0 57 2 .i64 ((aP Yg a h Yi).1))),(700,some (.box [.orig 700 0 (.ints .u8 (Yg)),.int .i64 ((aP Yg a h Yi).2.2.1),.int .u64 ((aP Yg a h Yi).2.2.2)]))]⟩) (fun u=>True) (fun u=>0) (fun _=>am))
 | _=>none
def Ky:List (Nat×Ctr):=[(112,⟨[(0,0)],lN⟩),(190,⟨[(0,0)],qX⟩),(189,⟨[(0,0)],oM 2⟩)]
def dr (Yg:List Int) (a:Int) (h:Int) (Yi:Int):=(↑(((aP Yg a h Yi).1).length):Int)
def jf (Yg:List Int) (a:Int) (h:Int) (Yi:Int):=(av (Yg.length) ((((aP Yg a h Yi).2).2).1) (24:Int))
def iB (Yg:List Int) (a:Int) (h:Int) (Yi:Int):=(az ((((aP Yg a h Yi).2).2).2) (24:Int))
def md (Yg:List Int) (a:Int) (h:Int) (Yi:Int):=(av (Yg.length) (jf Yg a h Yi) (dr Yg a h Yi))
def CC (Yg:List Int) (a:Int) (h:Int) (Yi:Int):Prop :=
 (((((bD Yg)∧((Yg.length≤(4096:Nat))∧(((0:Int)≤a)∧((a≤(↑(Yg.length):Int))∧(((1:Int)≤Yi)∧(Yi≤(7:Int)∧(1:Nat)≤(2:Nat)∨Yi≤(8:Int)∧(2:Nat)≤(2:Nat)))))))∧((Yg=Yg)∧True))∧(∃x0:Unit,(True∧((((aP Yg a h Yi).2).1=((aP Yg a h Yi).2).1)∧(((aP Yg a h Yi).1=(aP Yg a h Yi).1)∧((Yg=Yg)∧(((((aP Yg a h Yi).2).2).1=(((aP Yg a h Yi).2).2).1)∧((((aP Yg a h Yi).2).2).2=(((aP Yg a h Yi).2).2).2))))))))∧(∀x1:Unit,(True→((((bD Yg)∧(((0:Int)≤(((aP Yg a h Yi).2).2).1)∧((((aP Yg a h Yi).2).2).1≤(1099511627776:Int))))∧((Yg=Yg)∧True))∧(ac (ay Yg ((((aP Yg a h Yi).2).2).1) ((((aP Yg a h Yi).2).2).2) (24:Int) == (0:Int)) ((((bD Yg)∧((Yg.length≤(4096:Nat))∧(((0:Int)≤av (Yg.length) ((((aP Yg a h Yi).2).2).1) (24:Int))∧((av (Yg.length) ((((aP Yg a h Yi).2).2).1) (24:Int)≤(↑(Yg.length):Int))∧(((1:Int)≤(dr Yg a h Yi))∧((dr Yg a h Yi)≤(8:Int)))))))∧((Yg=Yg)∧True))∧((((aP Yg a h Yi).1=(dn Yg a h Yi).1)∧(((dG Yg (jf Yg a h Yi) (iB Yg a h Yi) (dr Yg a h Yi)).1=((dn Yg a h Yi).2).1)∧True))∧(((Yg=Yg)∧((((dG Yg (jf Yg a h Yi) (iB Yg a h Yi) (dr Yg a h Yi)).2).1=(((dn Yg a h Yi).2).2).1) ∧
 ((((dG Yg (jf Yg a h Yi) (iB Yg a h Yi) (dr Yg a h Yi)).2).2=(((dn Yg a h Yi).2).2).2)∧True)))∧True))) (ac (ay Yg ((((aP Yg a h Yi).2).2).1) ((((aP Yg a h Yi).2).2).2) (24:Int) == (1:Int)) ((((bD Yg)∧(((0:Int)≤av (Yg.length) ((((aP Yg a h Yi).2).2).1) (24:Int))∧(av (Yg.length) ((((aP Yg a h Yi).2).2).1) (24:Int)≤(1099511627776:Int))))∧((Yg=Yg)∧True))∧((aa (ay Yg (jf Yg a h Yi) (iB Yg a h Yi) (dr Yg a h Yi)) (((aP Yg a h Yi).1).length))∧((((bD Yg)∧(((0:Int)≤av (Yg.length) (jf Yg a h Yi) (dr Yg a h Yi))∧(av (Yg.length) (jf Yg a h Yi) (dr Yg a h Yi)≤(1099511627776:Int))))∧((Yg=Yg)∧True))∧((ab ((dr Yg a h Yi)+(1:Int)))∧((((bD Yg)∧(((0:Int)≤av (Yg.length) (md Yg a h Yi) (dr Yg a h Yi))∧(av (Yg.length) (md Yg a h Yi) (dr Yg a h Yi)≤(1099511627776:Int))))∧((Yg=Yg)∧True))∧((aa (ay Yg (md Yg a h Yi) (az (iB Yg a h Yi) (dr Yg a h Yi)) (dr Yg a h Yi)) ((((aP Yg a h Yi).1).getD ((ay Yg (jf Yg a h Yi) (iB Yg a h Yi) (dr Yg a h Yi)).toNat) []).length)) ∧
 (((List.set ((aP Yg a h Yi).1) ((ay Yg (jf Yg a h Yi) (iB Yg a h Yi) (dr Yg a h Yi)).toNat) (List.set (((aP Yg a h Yi).1).getD ((ay Yg (jf Yg a h Yi) (iB Yg a h Yi) (dr Yg a h Yi)).toNat) []) ((ay Yg (md Yg a h Yi) (az (iB Yg a h Yi) (dr Yg a h Yi)) (dr Yg a h Yi)).toNat) (ay Yg (av (Yg.length) (md Yg a h Yi) (dr Yg a h Yi)) (az (az (iB Yg a h Yi) (dr Yg a h Yi)) (dr Yg a h Yi)) ((dr Yg a h Yi)+(1:Int))))=(dn Yg a h Yi).1)∧((((aP Yg a h Yi).2).1=((dn Yg a h Yi).2).1)∧True))∧(((Yg=Yg)∧((av (Yg.length) (av (Yg.length) (md Yg a h Yi) (dr Yg a h Yi)) ((dr Yg a h Yi)+(1:Int))=(((dn Yg a h Yi).2).2).1)∧((az (az (az (iB Yg a h Yi) (dr Yg a h Yi)) (dr Yg a h Yi)) ((dr Yg a h Yi)+(1:Int))=(((dn Yg a h Yi).2).2).2)∧True)))∧True)))))))) (ac (ay Yg ((((aP Yg a h Yi).2).2).1) ((((aP Yg a h Yi).2).2).2) (24:Int) == (2:Int)) ((ar ((((aP Yg a h Yi).2).1).length) (Option.some (1:Int)) Option.none)∧((((aP Yg a h Yi).1=(dn Yg a h Yi).1) ∧
 ((dB (((aP Yg a h Yi).2).1) (Option.some (1:Int)) Option.none=((dn Yg a h Yi).2).1)∧True))∧(((Yg=Yg)∧((av (Yg.length) ((((aP Yg a h Yi).2).2).1) (24:Int)=(((dn Yg a h Yi).2).2).1)∧((az ((((aP Yg a h Yi).2).2).2) (24:Int)=(((dn Yg a h Yi).2).2).2)∧True)))∧True))) ((((aP Yg a h Yi).1=(dn Yg a h Yi).1)∧((((aP Yg a h Yi).2).1=((dn Yg a h Yi).2).1)∧True))∧(((Yg=Yg)∧((av (Yg.length) ((((aP Yg a h Yi).2).2).1) (24:Int)=(((dn Yg a h Yi).2).2).1)∧((az ((((aP Yg a h Yi).2).2).2) (24:Int)=(((dn Yg a h Yi).2).2).2)∧True)))∧True)))))))))
theorem Uk (Yg:List Int) (a:Int) (h:Int) (Yi:Int):aC Tryz.prog (af Ky) ah (Kx Yg a h Yi) Tryz.f138 (aE Tryz.f138) [(0,0)] [.box [.ints .u8 (Yg),.int .i64 (a),.int .u64 (h)],.c (.int .i64 (Yi))] (vn Yg a h Yi)=CC Yg a h Yi:=by kernel_rfl
theorem Ul (Yg:List Int) (a:Int) (h:Int) (Yi:Int) (Yh:(vn Yg a h Yi).pre):CC Yg a h Yi:=by
 simp only [vn,CC,dr,jf,iB,md,aG,u1,u2,u3,u4,u5,u6,u7,u8,u9,v1,v2,v3,v4,v5,v6,v7,v8,v9,w1,w2,w3,w4,aH,aa,ab,ae,ar] at Yh ⊢;obtain ⟨hb,hc,h0,h1,h2,h3⟩:=Yh;have L:=xP hb (h:=h) h0 h1 h2 h3
 refine ⟨⟨⟨hb,hc,h0,h1,h2,by omega⟩,⟨⟩,trivial⟩,fun _ _=>?_⟩
 have e:dn Yg a h Yi=gB Yg (aP Yg a h Yi):=rfl
 rw [e];generalize aP Yg a h Yi=b at *
 obtain ⟨b1,b2,b3,b4,b5,b6⟩:=L;have s:=dH (n:=24) b5 b6
 have s2:=dH (n:=(b.1.length:Int)) s.1 s.2
 have s3:=dH (n:=(b.1.length:Int)) s2.1 s2.2
 have I:=gk hb (av Yg.length b.2.2.1 24) (az b.2.2.2 24) (n:=(b.1.length:Int)) (by omega)
 have J:=gk hb (av Yg.length (av Yg.length b.2.2.1 24) (b.1.length:Int)) (az (az b.2.2.2 24) (b.1.length:Int)) (n:=(b.1.length:Int)) (by omega)
 refine ⟨⟨hb,b5,by omega⟩,fun z=>?_,fun z=>⟨fun z2=>?_,fun z2=>⟨fun z3=>?_,fun z3=>?_⟩⟩⟩
 ·have R:gB Yg b=(b.1,(dG Yg (gb Yg b) (gA b) (b.1.length:Int)).1,(dG Yg (gb Yg b) (gA b) (b.1.length:Int)).2):=if_pos z
  rw [R];exact ⟨⟨hb,hc,s.1,s.2,by omega,by omega⟩,⟨rfl,rfl⟩,rfl,rfl⟩
 ·have R:gB Yg b=(b.1.set (pV Yg b).toNat ((b.1.getD (pV Yg b).toNat []).set (Ku Yg b).toNat (Kv Yg b)),b.2.1,
      av Yg.length (av Yg.length (av Yg.length (gb Yg b) (b.1.length:Int)) (b.1.length:Int)) ((b.1.length:Int)+1),az (az (az (gA b) (b.1.length:Int)) (b.1.length:Int)) ((b.1.length:Int)+1)):=(if_neg z).trans (if_pos z2)
  rw [R];have row:=(b3.2 (ay Yg (av Yg.length b.2.2.1 24) (az b.2.2.2 24) (b.1.length:Int)).toNat (by omega)).1
  exact ⟨⟨hb,s.1,by omega⟩,by omega,⟨hb,s2.1,by omega⟩,by omega,⟨hb,s3.1,by omega⟩,by rw [row];omega,⟨rfl,rfl⟩,rfl,rfl⟩
 ·have R:gB Yg b=(b.1,b.2.1.drop 1,gb Yg b,gA b):=(if_neg z).trans ((if_neg z2).trans (if_pos z3))
  rw [R];have l4:=b4.1
  exact ⟨by omega,⟨rfl,rfl⟩,rfl,rfl⟩
 ·have R:gB Yg b=(b.1,b.2.1,gb Yg b,gA b):=(if_neg z).trans ((if_neg z2).trans (if_neg z3))
  rw [R];exact ⟨⟨rfl,rfl⟩,rfl,rfl⟩
theorem Um:Fits Tryz.prog 138 ⟨[(0,0)],CB⟩:=by
 refine aJ (Γ:=af Ky) (aj oQ (aj FN (aj (NF 2) aF))) Tryz.func138 fun ds p h hp=>?_
 unfold CB at h;split at h
 ·cases h
  exact ⟨ah,Kx _ _ _ _ ,by rw [Uk];exact Ul _ _ _ _  hp⟩
 ·cases h
def vo (a:List (List Int)) (c:List (List Int)):Post:=⟨au a∧au c,.tup [.inl (.int .i64 (if aK a c=true then bt a c else 0)),.inl (.int .i64 (if aK a c=true then 0 else 1))],[]⟩
def CD:List AD→Option Post
 | [.agg [.rows .i64 (a),.rows .i64 (c)]]=>some (vo a c)
 | _=>none
def Kz:List (Nat×Ctr):=[(44,⟨[],gT⟩),(76,⟨[],rx⟩)]
def CE (a:List (List Int)) (c:List (List Int)):Prop :=
 ((((au a)∧(au c))∧True)∧(ac (!aK a c) ((((0:Int)=if aK a c=true then bt a c else (0:Int))∧(((1:Int)=if aK a c=true then (0:Int) else (1:Int))∧True))∧True) ((((aW a=true)∧((aW c=true)∧(c.length=a.length)))∧True)∧(((bt a c=if aK a c=true then bt a c else (0:Int))∧(((0:Int)=if aK a c=true then (0:Int) else (1:Int))∧True))∧True))))
theorem Un (a:List (List Int)) (c:List (List Int)):aC Tryz.prog (af Kz) ah am Tryz.f25 (aE Tryz.f25) [] [.agg [.rows .i64 (a),.rows .i64 (c)]] (vo a c)=CE a c:=by kernel_rfl
theorem Uo (a:List (List Int)) (c:List (List Int)) (Yh:(vo a c).pre):CE a c:=by
 simp only [vo,CE,aG,u1,u2,u3,u4,u5,u6,u7,u8,u9,v1,v2,v3,v4,v5,v6,v7,v8,v9,w1,w2,w3,w4,aH,aa,ab,ae,ar] at Yh ⊢;refine ⟨Yh,fun b=>by simp [b],fun b=>?_⟩
 obtain ⟨ta,tc,hl,_⟩:=Cr b;exact ⟨⟨ta,tc,hl⟩,by simp [b],by simp [b]⟩
theorem Up:Fits Tryz.prog 25 ⟨[],CD⟩:=by
 refine aJ (Γ:=af Kz) (aj iZ (aj Ge aF)) Tryz.func25 fun ds p h hp=>?_
 unfold CD at h;split at h
 ·cases h
  exact ⟨ah,am,by rw [Un];exact Uo _ _  hp⟩
 ·cases h
def vp (a:List (List Int)) (c:List (List Int)):Post:=⟨au a∧au c,.tup [.inl (.bool (aK a c&&decide (a=c))),.inl (.int .i64 (if aK a c=true then 0 else 1))],[]⟩
def CF:List AD→Option Post
 | [.agg [.rows .i64 (a),.rows .i64 (c)]]=>some (vp a c)
 | _=>none
def KA:List (Nat×Ctr):=[(44,⟨[],gT⟩),(103,⟨[],za⟩)]
def CG (a:List (List Int)) (c:List (List Int)):Prop :=
 ((((au a)∧(au c))∧True)∧(ac (!aK a c) (((false=(aK a c&&decide (a=c)))∧(((1:Int)=if aK a c=true then (0:Int) else (1:Int))∧True))∧True) ((((au a)∧(au c))∧True)∧(((decide (a=c)=(aK a c&&decide (a=c)))∧(((0:Int)=if aK a c=true then (0:Int) else (1:Int))∧True))∧True))))
theorem Uq (a:List (List Int)) (c:List (List Int)):aC Tryz.prog (af KA) ah am Tryz.f43 (aE Tryz.f43) [] [.agg [.rows .i64 (a),.rows .i64 (c)]] (vp a c)=CG a c:=by kernel_rfl
theorem Ur (a:List (List Int)) (c:List (List Int)) (Yh:(vp a c).pre):CG a c:=by
 simp only [vp,CG,aG,u1,u2,u3,u4,u5,u6,u7,u8,u9,v1,v2,v3,v4,v5,v6,v7,v8,v9,w1,w2,w3,w4,aH,aa,ab,ae,ar] at Yh ⊢;exact ⟨Yh,fun b=>by simp [b],fun b=>⟨Yh,by simp [b],by simp [b]⟩⟩
theorem Us:Fits Tryz.prog 43 ⟨[],CF⟩:=by
 refine aJ (Γ:=af KA) (aj iZ (aj OS aF)) Tryz.func43 fun ds p h hp=>?_
 unfold CF at h;split at h
 ·cases h
  exact ⟨ah,am,by rw [Uq];exact Ur _ _  hp⟩
 ·cases h
def vq (a:List (List Int)) (b:List (List Int)):Post:=⟨au a,.c (.bool (decide (a=b))),[]⟩
def CH:List AD→Option Post
 | [.c (.rows .i64 (a)),.c (.rows .i64 (b))]=>some (vq a b)
 | _=>none
def KB (a:List (List Int)) (b:List (List Int)):Nat→Option Ann
 | 0=>some (Ann.mk ((Nat)) (fun i=>⟨[(0,.c (.ro (.rows .i64 (a)))),(1,.c (.ro (.rows .i64 (b)))),(5,.c (.int .i64 ((i:Int))))],[]⟩) (fun i=>i≤a.length∧a.length=b.length∧a.take i=b.take i) (fun i=>a.length - i) (fun _=>am))
 | _=>none
def KC:List (Nat×Ctr):=[(64,⟨[],Cy⟩)]
def CJ (a:List (List Int)) (b:List (List Int)):Prop :=
 (ac ((↑(a.length):Int) != (↑(b.length):Int)) ((false=decide (a=b))∧True) ((∃x0:Nat,(((x0≤a.length)∧((a.length=b.length)∧(List.take x0 a=List.take x0 b)))∧((a=a)∧((b=b)∧((0:Int)=(↑x0:Int))))))∧(∀x1:Nat,(((x1≤a.length)∧((a.length=b.length)∧(List.take x1 a=List.take x1 b)))→(ac (decide ((↑x1:Int)<(↑(a.length):Int))) ((aa (↑x1:Int) (a.length))∧((aa (↑x1:Int) (b.length))∧(((ae ((a.getD ((↑x1:Int).toNat) []).length))∧True)∧(ac (!decide (a.getD ((↑x1:Int).toNat) []=b.getD ((↑x1:Int).toNat) [])) ((false=decide (a=b))∧True) ((ab ((↑x1:Int)+(1:Int)))∧(∃x2:Nat,(((x2≤a.length)∧((a.length=b.length)∧(List.take x2 a=List.take x2 b)))∧((a.length - x2<a.length - x1)∧((a=a)∧((b=b)∧((↑x1:Int)+(1:Int)=(↑x2:Int)))))))))))) ((true=decide (a=b))∧True))))))
theorem Ut (a:List (List Int)) (b:List (List Int)):aC Tryz.prog (af KC) ah (KB a b) Tryz.f56 (aE Tryz.f56) [] [.c (.rows .i64 (a)),.c (.rows .i64 (b))] (vq a b)=CJ a b:=by kernel_rfl
theorem Uu (a:List (List Int)) (b:List (List Int)) (Yh:(vq a b).pre):CJ a b:=by
 simp only [vq,CJ,aG,u1,u2,u3,u4,u5,u6,u7,u8,u9,v1,v2,v3,v4,v5,v6,v7,v8,v9,w1,w2,w3,w4,aH,aa,ab,ae,ar] at Yh ⊢;have hk:=Yh.1
 refine ⟨fun h=>(decide_eq_false fun e=>h (by rw [e])).symm,fun h=>⟨⟨0,⟨by omega,by omega,rfl⟩,rfl⟩,fun i ⟨hi,hl,he⟩=>⟨fun g=>⟨by omega,by omega,Yh.2 _ (cE a [] i (by omega)),fun q=>(decide_eq_false fun e=>q (by rw [e])).symm,fun q=>⟨by omega,i+1,⟨by omega,hl,(Fq a b [] i (by omega) (by omega) he).2 q⟩,by omega,by omega⟩⟩,fun g=>?_⟩⟩⟩
 rw [List.take_of_length_le (by omega),List.take_of_length_le (by omega)] at he
 exact (decide_eq_true he).symm
theorem Uv:Fits Tryz.prog 56 ⟨[],CH⟩:=by
 refine aJ (Γ:=af KC) (aj Uj aF) Tryz.func56 fun ds p h hp=>?_
 unfold CH at h;split at h
 ·cases h
  exact ⟨ah,KB _ _ ,by rw [Ut];exact Uu _ _  hp⟩
 ·cases h
def vr (a:List (List Int)) (c:List (List Int)) (a2:List (List Int)) (c2:List (List Int)):Post:=⟨au a∧au c,.c (.bool (decide (a=a2∧c=c2))),[]⟩
def CK:List AD→Option Post
 | [.agg [.rows .i64 (a),.rows .i64 (c)],.agg [.rows .i64 (a2),.rows .i64 (c2)]]=>some (vr a c a2 c2)
 | _=>none
def KD:List (Nat×Ctr):=[(56,⟨[],CH⟩)]
def CM (a:List (List Int)) (c:List (List Int)) (a2:List (List Int)) (c2:List (List Int)):Prop :=
 (((au a)∧True)∧(ac (decide (a=a2)) (((au c)∧True)∧((decide (c=c2)=decide (a=a2∧c=c2))∧True)) ((false=decide (a=a2∧c=c2))∧True)))
theorem Uw (a:List (List Int)) (c:List (List Int)) (a2:List (List Int)) (c2:List (List Int)):aC Tryz.prog (af KD) ah am Tryz.f31 (aE Tryz.f31) [] [.agg [.rows .i64 (a),.rows .i64 (c)],.agg [.rows .i64 (a2),.rows .i64 (c2)]] (vr a c a2 c2)=CM a c a2 c2:=by kernel_rfl
theorem Ux (a:List (List Int)) (c:List (List Int)) (a2:List (List Int)) (c2:List (List Int)) (Yh:(vr a c a2 c2).pre):CM a c a2 c2:=by
 simp only [vr,CM,aG,u1,u2,u3,u4,u5,u6,u7,u8,u9,v1,v2,v3,v4,v5,v6,v7,v8,v9,w1,w2,w3,w4,aH,aa,ab,ae,ar] at Yh ⊢;exact ⟨Yh.1,fun e=>⟨Yh.2,by simp [e]⟩,fun e=>by simp [e]⟩
theorem Uy:Fits Tryz.prog 31 ⟨[],CK⟩:=by
 refine aJ (Γ:=af KD) (aj Uv aF) Tryz.func31 fun ds p h hp=>?_
 unfold CK at h;split at h
 ·cases h
  exact ⟨ah,am,by rw [Uw];exact Ux _ _ _ _  hp⟩
 ·cases h
def vt (s:Int):Post:=⟨0≤s∧s<4096,.c (.int .i64 (iw s)),[]⟩
def CO:List AD→Option Post
 | [.c (.int .i64 (s))]=>some (vt s)
 | _=>none
def KF (s:Int):Nat→Option Ann
 | 0=>some (Ann.mk ((Nat)×(Nat)×(Nat)) (fun x=>match x with | (k,v,u)=>⟨[(0,.c (.int .i64 ((v:Int)))),(3,.c (.int .i64 ((u:Int))))],[]⟩) (fun x=>match x with | (k,v,u)=>k≤63∧v<2 ^ k∧v<4096∧u+k≤63∧u+fC k v=fC 63 s.toNat) (fun x=>match x with | (k,v,u)=>v) (fun _=>am))
 | _=>none
def KG:List (Nat×Ctr):=[]
def CP (s:Int):Prop :=
 ((∃x0:Nat×Nat×Nat,(((x0.1≤(63:Nat))∧((x0.2.1<(2:Nat) ^ x0.1)∧((x0.2.1<(4096:Nat))∧((x0.2.2+x0.1≤(63:Nat))∧(x0.2.2+fC (x0.1) (x0.2.1)=fC (63:Nat) (s.toNat))))))∧((s=(↑x0.2.1:Int))∧((0:Int)=(↑x0.2.2:Int)))))∧(∀x1:Nat×Nat×Nat,(((x1.1≤(63:Nat))∧((x1.2.1<(2:Nat) ^ x1.1)∧((x1.2.1<(4096:Nat))∧((x1.2.2+x1.1≤(63:Nat))∧(x1.2.2+fC (x1.1) (x1.2.1)=fC (63:Nat) (s.toNat))))))→(ac (decide ((0:Int)<(↑x1.2.1:Int))) (((2:Int)≠(0:Int))∧((ab ((↑x1.2.2:Int)+Int.tmod (↑x1.2.1:Int) (2:Int)))∧((((2:Int)≠(0:Int))∧(ab (Int.tdiv (↑x1.2.1:Int) (2:Int))))∧(∃x2:Nat×Nat×Nat,(((x2.1≤(63:Nat))∧((x2.2.1<(2:Nat) ^ x2.1)∧((x2.2.1<(4096:Nat))∧((x2.2.2+x2.1≤(63:Nat))∧(x2.2.2+fC (x2.1) (x2.2.1)=fC (63:Nat) (s.toNat))))))∧((x2.2.1<x1.2.1)∧((Int.tdiv (↑x1.2.1:Int) (2:Int)=(↑x2.2.1:Int))∧((↑x1.2.2:Int)+Int.tmod (↑x1.2.1:Int) (2:Int)=(↑x2.2.2:Int))))))))) (((↑x1.2.2:Int)=iw s)∧True)))))
theorem Uz (s:Int):aC Tryz.prog (af KG) ah (KF s) Tryz.f45 (aE Tryz.f45) [] [.c (.int .i64 (s))] (vt s)=CP s:=by kernel_rfl
theorem UA (s:Int) (Yh:(vt s).pre):CP s:=by
 simp only [vt,CP,aG,u1,u2,u3,u4,u5,u6,u7,u8,u9,v1,v2,v3,v4,v5,v6,v7,v8,v9,w1,w2,w3,w4,aH,aa,ab,ae,ar] at Yh ⊢;have z:∀k,fC k 0=0:=fun k=>by
  induction k with
  | zero=>rfl
  | succ k ih=>rw [fC,Nat.zero_div,ih]
 refine ⟨⟨⟨63,s.toNat,0⟩,⟨by dsimp only;omega,by dsimp only;omega,by dsimp only;omega,by dsimp only;omega,by dsimp only;omega⟩,by dsimp only;omega,rfl⟩,fun ⟨k,v,u⟩ ⟨h1,h2,h3,h4,h5⟩=>?_⟩
 dsimp only at h1 h2 h3 h4 h5 ⊢;refine ⟨fun g=>?_,fun g=>?_⟩
 ·have d:(v:Int).tdiv 2=((v / 2:Nat):Int):=by rw [Int.tdiv_eq_ediv_of_nonneg (by omega)];rfl
  have m:(v:Int).tmod 2=((v % 2:Nat):Int):=by rw [Int.tmod_eq_emod_of_nonneg (by omega)];rfl
  rw [d,m];obtain ⟨k,rfl⟩:∃j,k=j+1:=⟨k - 1,by
   cases k with
   | zero=>simp at h2;omega
   | succ k=>simp⟩
  rw [Nat.pow_succ] at h2;rw [fC] at h5;exact ⟨by omega,by omega,⟨by omega,by omega⟩,⟨k,v / 2,u+v % 2⟩,⟨by dsimp only;omega,by dsimp only;omega,by dsimp only;omega,by dsimp only;omega,by dsimp only;omega⟩,by dsimp only;omega,rfl,by dsimp only;omega⟩
 ·have e:v=0:=by omega
  subst e;rw [z] at h5;rw [iw];omega
theorem UB:Fits Tryz.prog 45 ⟨[],CO⟩:=by
 refine aJ (Γ:=af KG) aF Tryz.func45 fun ds p h hp=>?_
 unfold CO at h;split at h
 ·cases h
  exact ⟨ah,KF _ ,by rw [Uz];exact UA _  hp⟩
 ·cases h
def vu (x:Int) (y:Int) (a:List (List Int)) (c:List (List Int)) (l:List (List Int)) (m:List Int):Post:=⟨bM a c∧l=aO a c∧m=bH a∧0≤x∧x<(a.length:Int)∧0≤y∧y<(a.length:Int),.c (.int .i64 (di a c x.toNat y.toNat)),[]⟩
def pW:List AD→Option Post
 | [.c (.int .i64 (x)),.c (.int .i64 (y)),.box [.rows .i64 (a),.rows .i64 (c)],.box [.rows .i64 (l)],.box [.ints .i64 (m)]]=>some (vu x y a c l m)
 | _=>none
def KH:List (Nat×Ctr):=[]
def CQ (x:Int) (y:Int) (a:List (List Int)) (c:List (List Int)) (l:List (List Int)) (m:List Int):Prop :=
 ((aa x (l.length))∧((aa y ((l.getD (x.toNat) []).length))∧((aa ((List.getD l (x.toNat) []).getD (y.toNat) (0:Int)) (a.length))∧((aa y (m.length))∧((aa (m.getD (y.toNat) (0:Int)) ((a.getD (((List.getD l (x.toNat) []).getD (y.toNat) (0:Int)).toNat) []).length))∧(((List.getD a ((List.getD (List.getD l (x.toNat) []) (y.toNat) (0:Int)).toNat) []).getD ((m.getD (y.toNat) (0:Int)).toNat) (0:Int)=di a c (x.toNat) (y.toNat))∧True))))))
theorem UC (x:Int) (y:Int) (a:List (List Int)) (c:List (List Int)) (l:List (List Int)) (m:List Int):aC Tryz.prog (af KH) ah am Tryz.f162 (aE Tryz.f162) [] [.c (.int .i64 (x)),.c (.int .i64 (y)),.box [.rows .i64 (a),.rows .i64 (c)],.box [.rows .i64 (l)],.box [.ints .i64 (m)]] (vu x y a c l m)=CQ x y a c l m:=by kernel_rfl
theorem UD (x:Int) (y:Int) (a:List (List Int)) (c:List (List Int)) (l:List (List Int)) (m:List Int) (Yh:(vu x y a c l m).pre):CQ x y a c l m:=by
 simp only [vu,CQ,aG,u1,u2,u3,u4,u5,u6,u7,u8,u9,v1,v2,v3,v4,v5,v6,v7,v8,v9,w1,w2,w3,w4,aH,aa,ab,ae,ar] at Yh ⊢;obtain ⟨h,rfl,rfl,x1,x2,y1,y2⟩:=Yh;obtain ⟨n1,n2,hl,ha,hc,hb⟩:=jv h;obtain ⟨hL,hl2⟩:=lX h;have hbl:=o5 a
 have R:=hl2 x.toNat (by omega)
 have V:=R.2 y.toNat (by omega)
 have B:=hb y.toNat (by omega)
 have R2:=ha (((aO a c).getD x.toNat []).getD y.toNat 0).toNat (by omega)
 have e:((aO a c).getD x.toNat []).getD y.toNat 0=fP a c x.toNat y.toNat:=by
  rw [aO,eZ _ _ _ (by omega),cr _ _ _ (by omega)]
 rw [o6 a y.toNat (by omega)]
 refine ⟨by omega,by omega,by omega,by omega,by omega,?_⟩
 rw [e];rfl
theorem UE:Fits Tryz.prog 162 ⟨[],pW⟩:=by
 refine aJ (Γ:=af KH) aF Tryz.func162 fun ds p h hp=>?_
 unfold pW at h;split at h
 ·cases h
  exact ⟨ah,am,by rw [UC];exact UD _ _ _ _ _ _  hp⟩
 ·cases h
def vw (a:List (List Int)) (c:List (List Int)):Post:=⟨bM a c,.c (.rows 57 2 .i64 (aS a.length (di a c))),[]⟩
def CR:List AD→Option Post
 | [.agg [.rows .i64 (a),.rows .i64 (c)]]=>some (vw a c)
 | _=>none
def KI:List (Nat×Ctr):=[(144,⟨[],nz⟩),(86,⟨[],kT⟩),(153,⟨[],oK⟩),(162,⟨[],pW⟩)]
def CT (a:List (List Int)) (c:List (List Int)):Prop :=
 (((aW a=true)∧True)∧(((bM a c)∧True)∧(((((0:Int)≤(↑(a.length):Int))∧(((↑(a.length):Int)≤(144:Int))∧(∀(x y:Int),(0:Int)≤x→x<(↑(a.length):Int)→(0:Int)≤y→y<(↑(a.length):Int)→jF (pW [AD.c (FC.int IntKind.i64 x),AD.c (FC.int IntKind.i64 y),AD.box [FC.rows IntKind.i64 a,FC.rows IntKind.i64 c],AD.box [FC.rows IntKind.i64 (aO a c)],AD.box [FC.ints IntKind.i64 (bH a)]]))))∧True)∧(((aS ((↑(a.length):Int).toNat) fun (x y:Nat)=>ku (pW [AD.c (FC.int IntKind.i64 (↑x:Int)),AD.c (FC.int IntKind.i64 (↑y:Int)),AD.box [FC.rows IntKind.i64 a,FC.rows IntKind.i64 c],AD.box [FC.rows IntKind.i64 (aO a c)],AD.box [FC.ints IntKind.i64 (bH a)]]))=aS (a.length) (di a c))∧True))))
theorem UF (a:List (List Int)) (c:List (List Int)):aC Tryz.prog (af KI) ah am Tryz.f94 (aE Tryz.f94) [] [.agg [.rows .i64 (a),.rows .i64 (c)]] (vw a c)=CT a c:=by kernel_rfl
theorem UG (a:List (List Int)) (c:List (List Int)) (Yh:(vw a c).pre):CT a c:=by
 simp only [vw,CT,aG,u1,u2,u3,u4,u5,u6,u7,u8,u9,v1,v2,v3,v4,v5,v6,v7,v8,v9,w1,w2,w3,w4,aH,aa,ab,ae,ar] at Yh ⊢;obtain ⟨n1,n2,hl,ha,hc,hb⟩:=jv Yh;exact ⟨dh Yh.1,Yh,⟨by omega,by omega,fun x y a1 a2 a3 a4=>⟨Yh,rfl,rfl,a1,a2,a3,a4⟩⟩,xC fun x y hx hy=>rfl⟩
theorem UH:Fits Tryz.prog 94 ⟨[],CR⟩:=by
 refine aJ (Γ:=af KI) (aj sD (aj nD (aj xB (aj UE aF)))) Tryz.func94 fun ds p h hp=>?_
 unfold CR at h;split at h
 ·cases h
  exact ⟨ah,am,by rw [UF];exact UG _ _  hp⟩
 ·cases h
def g5 (a c:List (List Int)) (x:Nat) (m:Nat):Nat→Nat
 | 0=>m
 | j+1=>g5 a c x m j ||| 2 ^ (di a c x j).toNat
def cX (a c:List (List Int)):Nat→Nat
 | 0=>0
 | i+1=>g5 a c i (cX a c i) a.length
theorem CU {a c:List (List Int)} (h:bM a c) {x y:Nat} (hx:x<a.length) (hy:y<a.length):0≤di a c x y∧di a c x y≤(a.length:Int) - 1:=by
 obtain ⟨n1,n2,hl,ha,hc,hb⟩:=jv h;have L:=((lX h).2 x hx).2 y hy
 rw [aO,eZ _ _ _ hx,cr _ _ _ hy] at L;have B:=hb y hy
 exact (ha (fP a c x y).toNat (by omega)).2 (bk a y).toNat (by omega)
theorem KJ {v:Int} {n:Nat} (h:0≤v∧v≤(n:Int) - 1):2 ^ v.toNat<2 ^ n:=Nat.pow_lt_pow_right (by omega) (by omega)
theorem CV {a c:List (List Int)} (h:bM a c) {x:Nat} (hx:x<a.length) {m:Nat} (hm:m<2 ^ a.length):∀j,j≤a.length→g5 a c x m j<2 ^ a.length
 | 0,_=>hm
 | j+1,hj=>Nat.or_lt_two_pow (CV h hx hm j (by omega)) (KJ (CU h hx (by omega)))
theorem CW {a c:List (List Int)} (h:bM a c):∀i,i≤a.length→cX a c i<2 ^ a.length
 | 0,_=>Nat.two_pow_pos _
 | i+1,hi=>CV h (by omega) (CW h i (by omega)) _ (Nat.le_refl _)
def de (st:Int) (l:List Int) (m0:Int):Nat→Int
 | 0=>m0
 | i+1=>if (((l.getD i 0).toNat &&& st.toNat:Nat):Int)=st then (((de st l m0 i).toNat &&& (l.getD i 0).toNat:Nat):Int) else de st l m0 i
theorem CX {st:Int} {l:List Int} {m0 M:Int} (h:0≤m0∧m0≤M):∀i,0≤de st l m0 i∧de st l m0 i≤M
 | 0=>h
 | i+1=>by
  have ih:=CX h (st:=st) (l:=l) i
  simp only [de];split
  ·have:(de st l m0 i).toNat &&& (l.getD i 0).toNat≤(de st l m0 i).toNat:=Nat.and_le_left
   omega
  ·exact ih
def iD (a c:List (List Int)):Int:=de (cX a c a.length:Nat) (aL (aR a c) (2 ^ (a.length - 1))) (1 * 2 ^ a.length - 1) (aL (aR a c) (2 ^ (a.length - 1))).length
def dL (a c:List (List Int)):Int×Int:=if aK a c=true then (iD a c,0) else (0,1)
theorem UI {a c:List (List Int)} (h:aK a c=true):de (cX a c a.length:Nat) (aL (aR a c) (2 ^ (a.length - 1))) (1 * 2 ^ a.length - 1) (aL (aR a c) (2 ^ (a.length - 1))).length=(dL a c).1∧0=(dL a c).2:=by
 rw [dL,if_pos h];exact ⟨rfl,rfl⟩
theorem UJ {S:Nat} {l:List Int} {m0:Int} {i:Nat} (h:(((l.getD i 0).toNat &&& S:Nat):Int)=(S:Int)):(((de (S:Int) l m0 i).toNat &&& (l.getD i 0).toNat:Nat):Int)=de (S:Int) l m0 (i+1):=by
 simp only [de,Int.toNat_natCast];rw [if_pos h]
theorem UK {S:Nat} {l:List Int} {m0:Int} {i:Nat} (h:(((l.getD i 0).toNat &&& S:Nat):Int)≠(S:Int)):de (S:Int) l m0 i=de (S:Int) l m0 (i+1):=by
 simp only [de,Int.toNat_natCast];rw [if_neg h]
theorem me (k:Nat):(1 * (2:Int) ^ k)=((2 ^ k:Nat):Int):=by
 rw [Int.one_mul,Int.natCast_pow];rfl
def vz (a:List (List Int)) (c:List (List Int)):Post:=⟨au a∧au c,.tup [.inl (.int .i64 ((dL a c).1)),.inl (.int .i64 ((dL a c).2))],[]⟩
def CY:List AD→Option Post
 | [.agg [.rows .i64 (a),.rows .i64 (c)]]=>some (vz a c)
 | _=>none
def KK (a:List (List Int)) (c:List (List Int)):Nat→Option Ann
 | 0=>some (Ann.mk ((Nat)) (fun i=>⟨[(1,.c (.ptr 1 0)),(4,.c (.int .i64 (((cX a c i:Nat):Int)))),(16,.c (.own (16))),(17,.c (.int .i64 ((a.length:Int)))),(18,.c (.int .i64 ((i:Int))))],[(1,some (.box [.ro (.rows .i64 (a)),.ro (.rows .i64 (c))])),(16,some (.rows 0 57 2 .i64 (aS a.length (di a c))))]⟩) (fun i=>i≤a.length∧aK a c=true) (fun i=>a.length - i) (fun i=>fun b_=>match b_ with | 2=>some (Ann.mk ((Nat)) (fun j=>⟨[(1,.c (.ptr 1 0)),(4,.c (.int .i64 (((g5 a c i (cX a c i) j:Nat):Int)))),(16,.c (.own (16))),(17,.c (.int .i64 ((a.length:Int)))),(18,.c (.int .i64 ((i:Int)))),(22,.c (.row 16 0 (Int.toNat (i:Int)))),(23,.c (.int .i64 ((a.length:Int)))),(24,.c (.int .i64 ((j:Int))))],[(1,some (.box [.ro (.rows .i64 (a)),.ro (.rows .i64 (c))])),(16,some (.rows 0 57 2 .i64 (aS a.length (di a c))))]⟩) (fun j=>j≤a.length∧i<a.length) (fun j=>a.length - j) (fun _=>am)) | _=>none))
 | 4=>some (Ann.mk ((Nat)) (fun i=>⟨[(1,.c (.ptr 1 0)),(4,.c (.int .i64 (((cX a c a.length:Nat):Int)))),(9,.c (.int .i64 (de (cX a c a.length:Nat) (aL (aR a c) (2 ^ (a.length - 1))) (1 * 2 ^ a.length - 1) i))),(40,.c (.own (40))),(41,.c (.int .i64 (((aL (aR a c) (2 ^ (a.length - 1))).length:Int)))),(42,.c (.int .i64 ((i:Int))))],[(1,some (.box [.ro (.rows .i64 (a)),.ro (.rows .i64 (c))])),(40,some (.ints 2 .i64 (aL (aR a c) (2 ^ (a.length - 1)))))]⟩) (fun i=>i≤(aL (aR a c) (2 ^ (a.length - 1))).length) (fun i=>(aL (aR a c) (2 ^ (a.length - 1))).length - i) (fun _=>am))
 | _=>none
def KM:List (Nat×Ctr):=[(44,⟨[],gT⟩),(94,⟨[],CR⟩),(95,⟨[],pD⟩)]
def dt (a:List (List Int)) (c:List (List Int)):=(aL (aR a c) ((2:Nat) ^ (a.length - (1:Nat))))
def kf (a:List (List Int)) (c:List (List Int)) (x0:Nat):=((aS (a.length) (di a c)).getD ((↑x0:Int).toNat) [])
def fR (a:List (List Int)) (c:List (List Int)):=(↑(cX a c (a.length)):Int)
def CZ (a:List (List Int)) (c:List (List Int)):Prop :=
 ((((au a)∧(au c))∧True)∧(ac (!aK a c) ((((0:Int)=(dL a c).1)∧(((1:Int)=(dL a c).2)∧True))∧True) (((bM a c)∧True)∧((∃x0:Nat,(((x0≤a.length)∧(aK a c=true))∧(((0:Int)=(↑(cX a c x0):Int))∧(((↑((aS (a.length) (di a c)).length):Int)=(↑(a.length):Int))∧(((0:Int)=(↑x0:Int))∧((a=a)∧((c=c)∧(aS (a.length) (di a c)=aS (a.length) (di a c)))))))))∧(∀x1:Nat,(((x1≤a.length)∧(aK a c=true))→(ac (decide ((↑x1:Int)<(↑(a.length):Int))) ((aa (↑x1:Int) ((aS (a.length) (di a c)).length))∧((∃x2:Nat,(((x2≤a.length)∧(x1<a.length))∧(((↑(cX a c x1):Int)=(↑(g5 a c x1 (cX a c x1) x2):Int))∧(((↑(a.length):Int)=(↑(a.length):Int))∧(((↑x1:Int)=(↑x1:Int))∧(((↑x1:Int).toNat=(↑x1:Int).toNat)∧(((↑((kf a c x1).length):Int)=(↑(a.length):Int))∧(((0:Int)=(↑x2:Int))∧((a=a)∧((c=c)∧(aS (a.length) (di a c)=aS (a.length) (di a c))))))))))))∧(∀x3:Nat,(((x3≤a.length)∧(x1<a.length))→(ac (decide ((↑x3:Int)<(↑(a.length):Int))) ((aa (↑x3:Int) ((kf a c x1).length))∧(((((0:Int)≤(kf a c x1).getD ((↑x3:Int).toNat) (0:Int))∧((kf a c x1).getD ((↑x3:Int).toNat) (0:Int)≤(62:Int)))∧(ab ((1:Int) * (2:Int) ^ ((kf a c x1).getD ((↑x3:Int).toNat) (0:Int)).toNat)))∧(((IntKind.i64=IntKind.i64)∧((((0:Int)≤(↑(g5 a c x1 (cX a c x1) x3):Int))∧((↑(g5 a c x1 (cX a c x1) x3):Int)≤(9223372036854775807:Int)))∧(((0:Int)≤(1:Int) * (2:Int) ^ ((kf a c x1).getD ((↑x3:Int).toNat) (0:Int)).toNat) ∧
 ((1:Int) * (2:Int) ^ ((kf a c x1).getD ((↑x3:Int).toNat) (0:Int)).toNat≤(9223372036854775807:Int)))))∧((ab ((↑x3:Int)+(1:Int)))∧(∃x4:Nat,(((x4≤a.length)∧(x1<a.length))∧((a.length - x4<a.length - x3)∧(((↑((↑(g5 a c x1 (cX a c x1) x3):Int).toNat ||| ((1:Int) * (2:Int) ^ ((kf a c x1).getD ((↑x3:Int).toNat) (0:Int)).toNat).toNat):Int)=(↑(g5 a c x1 (cX a c x1) x4):Int))∧(((↑(a.length):Int)=(↑(a.length):Int))∧(((↑x1:Int)=(↑x1:Int))∧(((↑x1:Int).toNat=(↑x1:Int).toNat)∧(((↑(a.length):Int)=(↑(a.length):Int))∧(((↑x3:Int)+(1:Int)=(↑x4:Int))∧((a=a)∧((c=c)∧(aS (a.length) (di a c)=aS (a.length) (di a c))))))))))))))))) ((ab ((↑x1:Int)+(1:Int)))∧(∃x5:Nat,(((x5≤a.length)∧(aK a c=true))∧((a.length - x5<a.length - x1)∧(((↑(g5 a c x1 (cX a c x1) x3):Int)=(↑(cX a c x5):Int))∧(((↑(a.length):Int)=(↑(a.length):Int))∧(((↑x1:Int)+(1:Int)=(↑x5:Int))∧((a=a)∧((c=c)∧(aS (a.length) (di a c)=aS (a.length) (di a c)))))))))))))))) (((((0:Int)≤(↑(a.length):Int))∧((↑(a.length):Int)≤(62:Int)))∧(ab ((1:Int) * (2:Int) ^ (↑(a.length):Int).toNat)))∧((ab ((1:Int) * (2:Int) ^ (↑(a.length):Int).toNat - (1:Int)))∧(((bM a c)∧True)∧((∃x6:Nat,((x6≤(dt a c).length)∧(((↑(cX a c x1):Int)=(fR a c))∧(((1:Int) * (2:Int) ^ (↑(a.length):Int).toNat - (1:Int)=de (fR a c) (dt a c) ((1:Int) * (2:Int) ^ a.length - (1:Int)) x6)∧(((↑((dt a c).length):Int)=(↑((dt a c).length):Int)) ∧
 (((0:Int)=(↑x6:Int))∧((a=a)∧((c=c)∧(aL (aR a c) ((2:Nat) ^ (a.length - (1:Nat)))=aL (aR a c) ((2:Nat) ^ (a.length - (1:Nat))))))))))))∧(∀x7:Nat,((x7≤(dt a c).length)→(ac (decide ((↑x7:Int)<(↑((aL (aR a c) ((2:Nat) ^ (a.length - (1:Nat)))).length):Int))) ((aa (↑x7:Int) ((dt a c).length))∧(((IntKind.i64=IntKind.i64)∧((((0:Int)≤(dt a c).getD ((↑x7:Int).toNat) (0:Int))∧((dt a c).getD ((↑x7:Int).toNat) (0:Int)≤(9223372036854775807:Int)))∧(((0:Int)≤(fR a c))∧((fR a c)≤(9223372036854775807:Int)))))∧(ac ((↑(((aL (aR a c) ((2:Nat) ^ (a.length - (1:Nat)))).getD ((↑x7:Int).toNat) (0:Int)).toNat &&& (↑(cX a c (a.length)):Int).toNat):Int) == (↑(cX a c (a.length)):Int)) (((IntKind.i64=IntKind.i64)∧((((0:Int)≤de (fR a c) (dt a c) ((1:Int) * (2:Int) ^ a.length - (1:Int)) x7)∧(de (fR a c) (dt a c) ((1:Int) * (2:Int) ^ a.length - (1:Int)) x7≤(9223372036854775807:Int)))∧(((0:Int)≤(dt a c).getD ((↑x7:Int).toNat) (0:Int))∧((dt a c).getD ((↑x7:Int).toNat) (0:Int)≤(9223372036854775807:Int)))))∧((ab ((↑x7:Int)+(1:Int)))∧(∃x8:Nat,((x8≤(dt a c).length)∧(((dt a c).length - x8<(dt a c).length - x7)∧(((fR a c)=(fR a c))∧(((↑((de (fR a c) (dt a c) ((1:Int) * (2:Int) ^ a.length - (1:Int)) x7).toNat &&& ((dt a c).getD ((↑x7:Int).toNat) (0:Int)).toNat):Int)=de (fR a c) (dt a c) ((1:Int) * (2:Int) ^ a.length - (1:Int)) x8) ∧
 (((↑((dt a c).length):Int)=(↑((dt a c).length):Int))∧(((↑x7:Int)+(1:Int)=(↑x8:Int))∧((a=a)∧((c=c)∧(aL (aR a c) ((2:Nat) ^ (a.length - (1:Nat)))=aL (aR a c) ((2:Nat) ^ (a.length - (1:Nat))))))))))))))) ((ab ((↑x7:Int)+(1:Int)))∧(∃x9:Nat,((x9≤(dt a c).length)∧(((dt a c).length - x9<(dt a c).length - x7)∧(((fR a c)=(fR a c))∧((de (fR a c) (dt a c) ((1:Int) * (2:Int) ^ a.length - (1:Int)) x7=de (fR a c) (dt a c) ((1:Int) * (2:Int) ^ a.length - (1:Int)) x9)∧(((↑((dt a c).length):Int)=(↑((dt a c).length):Int))∧(((↑x7:Int)+(1:Int)=(↑x9:Int))∧((a=a)∧((c=c)∧(aL (aR a c) ((2:Nat) ^ (a.length - (1:Nat)))=aL (aR a c) ((2:Nat) ^ (a.length - (1:Nat))))))))))))))))) (((de (fR a c) (dt a c) ((1:Int) * (2:Int) ^ a.length - (1:Int)) x7=(dL a c).1)∧(((0:Int)=(dL a c).2)∧True))∧True)))))))))))))))
theorem UL (a:List (List Int)) (c:List (List Int)):aC Tryz.prog (af KM) ah (KK a c) Tryz.f36 (aE Tryz.f36) [] [.agg [.rows .i64 (a),.rows .i64 (c)]] (vz a c)=CZ a c:=by kernel_rfl
theorem UM (a:List (List Int)) (c:List (List Int)) (Yh:(vz a c).pre):CZ a c:=by
 simp only [vz,CZ,dt,kf,fR,aG,u1,u2,u3,u4,u5,u6,u7,u8,u9,v1,v2,v3,v4,v5,v6,v7,v8,v9,w1,w2,w3,w4,aH,aa,ab,ae,ar] at Yh ⊢;refine ⟨Yh,fun h=>by simp [dL,h],fun h=>?_⟩
 have hg:bM a c:=⟨(dq h).1,(dq h).2.1,(dq h).2.2.1⟩
 obtain ⟨n1,n2,hl,ha,hc,hb⟩:=jv hg;have hT:=fK a.length (di a c)
 have p12:=lV n2
 have pn:(1 * (2:Int) ^ a.length)=((2 ^ a.length:Nat):Int):=me a.length
 have pp:=Nat.two_pow_pos a.length
 have q2:=pA (n:=a.length) (by omega)
 have ol:=nF (aR a c) (2 ^ (a.length - 1))
 have sl:=CW hg a.length (Nat.le_refl _)
 have yes:=UI h
 have er:∀i,i<a.length→(aS a.length (di a c)).getD i []=aq a.length (di a c i):=fun i hi=>eZ _ _ _ hi
 refine ⟨hg,⟨0,⟨by omega,h⟩,rfl,by omega,rfl⟩,fun i ⟨hi,_⟩=>⟨fun h3=>?_,fun h3=>?_⟩⟩
 ·rw [er i (by omega),cf]
  refine ⟨by omega,⟨0,by omega,rfl,rfl,rfl⟩,fun j ⟨hj,_⟩=>⟨fun h4=>?_,fun h4=>?_⟩⟩
  ·rw [cr _ _ _ (by omega)]
   have v:=CU hg (x:=i) (y:=j) (by omega) (by omega)
   have t2:=KJ v
   have t3:=Int.natCast_nonneg (2 ^ (di a c i j).toNat)
   have sj:=CV hg (x:=i) (by omega) (CW hg i (by omega)) j (by omega)
   rw [me,Int.toNat_natCast];exact ⟨by omega,⟨by omega,by omega,by omega⟩,⟨by omega,by omega,by omega⟩,by omega,j+1,by omega,by omega,rfl,by omega⟩
  ·refine ⟨by omega,i+1,⟨by omega,h⟩,by omega,?_,by omega⟩
   rw [show j=a.length by omega];rfl
 ·have ei:i=a.length:=by omega
  rw [ei];refine ⟨⟨by omega,by rw [pn];omega⟩,by rw [pn];omega,hg,⟨0,by omega,rfl,by simp only [de],rfl⟩,fun k hk=>⟨fun h5=>?_,fun h5=>?_⟩⟩
  ·obtain ⟨j,hj,ej⟩:=tR (cE (aL (aR a c) (2 ^ (a.length - 1))) 0 k (by omega))
   have iv:=CX (st:=(cX a c a.length:Nat)) (l:=aL (aR a c) (2 ^ (a.length - 1))) (m0:=1 * 2 ^ a.length - 1) (M:=4096) (by rw [pn];omega) k
   refine ⟨by omega,⟨by omega,by omega⟩,fun h6=>⟨⟨by omega,by omega⟩,by omega,k+1,by omega,by omega,UJ h6,by omega⟩,fun h6=>⟨by omega,k+1,by omega,by omega,UK h6,by omega⟩⟩
  ·rw [show k=(aL (aR a c) (2 ^ (a.length - 1))).length by omega]
   exact yes
theorem UN:Fits Tryz.prog 36 ⟨[],CY⟩:=by
 refine aJ (Γ:=af KM) (aj iZ (aj UH (aj AV aF))) Tryz.func36 fun ds p h hp=>?_
 unfold CY at h;split at h
 ·cases h
  exact ⟨ah,KK _ _ ,by rw [UL];exact UM _ _  hp⟩
 ·cases h
end Go.Sx
