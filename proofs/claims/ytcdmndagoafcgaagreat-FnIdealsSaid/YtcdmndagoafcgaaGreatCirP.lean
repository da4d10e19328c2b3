/- CirP -/
import Derived.Test.YtcdmndagoafcgaaGreatTable
import Derived.Test.YtcdmndagoafcgaaGreatOwn2
import Derived.Test.YtcdmndagoafcgaaGreatMapQ
import Derived.Test.YtcdmndagoafcgaaGreatCmp
import Derived.Test.YtcdmndagoafcgaaGreatMapA
section
section
open Go Go.Proofs
namespace Go.Sx
set_option linter.unusedSimpArgs false
set_option linter.unusedVariables false
def bD (Yg:List Int):Prop:=∀x∈Yg,0≤x∧x≤255
theorem Gr {Yg:List Int} (h:bD Yg) (i:Nat):0≤Yg.getD i 0∧Yg.getD i 0≤255:=by
 by_cases hi:i<Yg.length
 ·rw [ce Yg 0 i hi];exact h _ (List.getElem_mem hi)
 ·rw [List.getD_eq_getElem?_getD,List.getElem?_eq_none (by omega)];decide
def jW (h:Int):Int:=IntKind.wrap .u64 (IntKind.wrap .u64 (h * 6364136223846793005)+1442695040888963407)
def az (h n:Int):Int:=if n<1 then h else jW h
def av (L:Nat) (a n:Int):Int:=if n<1 then a else if a<(L:Int) then a+1 else a
def nn (h:Int):Int:=(((jW h / 2 ^ 33).toNat &&& 16777215:Nat):Int)
def ay (Yg:List Int) (a h n:Int):Int:=if n<1 then 0 else if a<(Yg.length:Int) then (nn h+Yg.getD a.toNat 0).tmod n else (nn h).tmod n
theorem Oc (x:Int):0≤IntKind.wrap .u64 x∧IntKind.wrap .u64 x≤18446744073709551615:=by
 have:IntKind.wrap .u64 x=x % 18446744073709551616:=rfl
 omega
theorem tmod_in' {a m:Int} (h:0≤a) (hm:1≤m):0≤a.tmod m∧a.tmod m≤m - 1:=by
 rw [Int.tmod_eq_emod_of_nonneg h];have h1:=Int.emod_nonneg a (show m≠0 by omega)
 have h2:=Int.emod_lt_of_pos a (show 0<m by omega)
 omega
def bz (Yg:List Int) (a h:Int):Nat→List Int×Int×Int
 | 0=>([],a,h)
 | i+1=>let s:=bz Yg a h i
  let k:=(ay Yg s.2.1 s.2.2 ((i:Int)+1)).toNat
  (s.1.take k++((i:Int)::s.1.drop k),av Yg.length s.2.1 ((i:Int)+1),az s.2.2 ((i:Int)+1))
theorem Gs (h:Int):0≤nn h∧nn h≤16777215:=by
 have:((jW h / 2 ^ 33).toNat &&& 16777215)≤16777215:=Nat.and_le_right
 unfold nn;omega
def rD (Yg:List Int) (a:Int) (h:Int) (n:Int):Post:=⟨bD Yg∧0≤a∧a≤1099511627776,.c (.int .i64 (ay Yg a h n)),[.bx [.ints .u8 (Yg),.int .i64 (av Yg.length a n),.int .u64 (az h n)]]⟩
def lN:List AD→Option Post
 | [.box [.ints .u8 (Yg),.int .i64 (a),.int .u64 (h)],.c (.int .i64 (n))]=>some (rD Yg a h n)
 | _=>none
def Gt:List (Nat×Ctr):=[]
def oP (h:Int):=(↑((IntKind.wrap IntKind.u64 (IntKind.wrap IntKind.u64 (h * (6364136223846793005:Int))+(1442695040888963407:Int)) / (2:Int) ^ (33:Int).toNat).toNat &&& (16777215:Int).toNat):Int)
def yE (Yg:List Int) (a:Int) (h:Int) (n:Int):Prop :=
 (ac (decide (n<(1:Int))) (((0:Int)=ay Yg a h n)∧(((Yg=Yg)∧((a=av (Yg.length) a n)∧((h=az h n)∧True)))∧True)) ((((0:Int)≤(33:Int))∧((33:Int)≤(62:Int)))∧(((((0:Int)≤IntKind.wrap IntKind.u64 (IntKind.wrap IntKind.u64 (h * (6364136223846793005:Int))+(1442695040888963407:Int)) / (2:Int) ^ (33:Int).toNat)∧(IntKind.wrap IntKind.u64 (IntKind.wrap IntKind.u64 (h * (6364136223846793005:Int))+(1442695040888963407:Int)) / (2:Int) ^ (33:Int).toNat≤(18446744073709551615:Int)))∧(((0:Int)≤(16777215:Int))∧((16777215:Int)≤(18446744073709551615:Int))))∧((ab (oP h))∧(ac (decide (a<(↑(Yg.length):Int))) ((aa a (Yg.length))∧((ab (Yg.getD (a.toNat) (0:Int)))∧((ab ((oP h)+Yg.getD (a.toNat) (0:Int)))∧((ab (a+(1:Int)))∧((n≠(0:Int))∧((Int.tmod ((oP h)+Yg.getD (a.toNat) (0:Int)) n=ay Yg a h n)∧(((Yg=Yg)∧((a+(1:Int)=av (Yg.length) a n)∧((IntKind.wrap IntKind.u64 (IntKind.wrap IntKind.u64 (h * (6364136223846793005:Int))+(1442695040888963407:Int))=az h n)∧True)))∧True))))))) ((n≠(0:Int))∧((Int.tmod (oP h) n=ay Yg a h n)∧(((Yg=Yg)∧((a=av (Yg.length) a n)∧((IntKind.wrap IntKind.u64 (IntKind.wrap IntKind.u64 (h * (6364136223846793005:Int))+(1442695040888963407:Int))=az h n)∧True)))∧True))))))))
theorem Od (Yg:List Int) (a:Int) (h:Int) (n:Int):aC Tryz.prog (af Gt) ah am Tryz.f112 (aE Tryz.f112) [(0,0)] [.box [.ints .u8 (Yg),.int .i64 (a),.int .u64 (h)],.c (.int .i64 (n))] (rD Yg a h n)=yE Yg a h n:=by kernel_rfl
theorem Oe (Yg:List Int) (a:Int) (h:Int) (n:Int) (Yh:(rD Yg a h n).pre):yE Yg a h n:=by
 simp only [rD,yE,oP,aG,u1,u2,u3,u4,u5,u6,u7,u8,u9,v1,v2,v3,v4,v5,v6,v7,v8,v9,w1,w2,w3,w4,aH,aa,ab,ae,ar] at Yh ⊢;obtain ⟨hb,h0,h1⟩:=Yh;have hr:=Gs h
 have hg:=Gr hb a.toNat
 have hs:0≤jW h∧jW h≤18446744073709551615:=Oc _
 refine ⟨fun hn=>⟨(if_pos hn).symm,(if_pos hn).symm,(if_pos hn).symm⟩,fun hn=>⟨?_,?_⟩⟩
 ·exact ⟨by decide,by decide⟩
 ·have e2:IntKind.u64.wrap (IntKind.u64.wrap (h * 6364136223846793005)+1442695040888963407)=jW h:=rfl
  have e:(((jW h / 2 ^ Int.toNat 33).toNat &&& Int.toNat 16777215:Nat):Int)=nn h:=rfl
  rw [e2,e,show jW h / 2 ^ Int.toNat 33=jW h / 8589934592 from rfl]
  refine ⟨by omega,by omega,fun hl=>⟨by omega,by omega,by omega,by omega,by omega,?_,?_,(if_neg hn).symm⟩,fun hl=>⟨by omega,?_,?_,(if_neg hn).symm⟩⟩
  ·rw [ay,if_neg hn,if_pos hl]
  ·rw [av,if_neg hn,if_pos hl]
  ·rw [ay,if_neg hn,if_neg hl]
  ·rw [av,if_neg hn,if_neg hl]
theorem oQ:Fits Tryz.prog 112 ⟨[(0,0)],lN⟩:=by
 refine aJ (Γ:=af Gt) aF Tryz.func112 fun ds p h hp=>?_
 unfold lN at h;split at h
 ·cases h
  exact ⟨ah,am,by rw [Od];exact Oe _ _ _ _  hp⟩
 ·cases h
def dU (Yg:List Int):Nat→Int
 | 0=>IntKind.wrap .u64 (6553+IntKind.wrap .u64 (Yg.length:Int))
 | i+1=>IntKind.wrap .u64 (IntKind.wrap .u64 (IntKind.wrap .u64 (dU Yg i * 1099511628211)+IntKind.wrap .u64 (Yg.getD i 0))+11)
def rE (Yg:List Int):Post:=⟨bD Yg∧Yg.length≤4096,.c (.bx [.ints .u8 (Yg),.int .i64 (0),.int .u64 (dU Yg Yg.length)]),[]⟩
def yF:List AD→Option Post
 | [.c (.ints .u8 (Yg))]=>some (rE Yg)
 | _=>none
def Gu (Yg:List Int):Nat→Option Ann
 | 0=>some (Ann.mk ((Nat)) (fun i=>⟨[(0,.c (.ro (.ints .u8 (Yg)))),(3,.c (.ptr 10 0)),(4,.c (.int .i64 ((i:Int))))],[(10,some (.box [.ro (.ints .u8 (Yg)),.int .i64 (0),.int .u64 (dU Yg i)]))]⟩) (fun i=>i≤Yg.length) (fun i=>Yg.length - i) (fun _=>am))
 | _=>none
def Gv:List (Nat×Ctr):=[]
def yG (Yg:List Int):Prop :=
 ((∃x0:Nat,((x0≤Yg.length)∧((Yg=Yg)∧(((0:Int)=(↑x0:Int))∧((Yg=Yg)∧(((0:Int)=(0:Int))∧(IntKind.wrap IntKind.u64 ((6553:Int)+IntKind.wrap IntKind.u64 (↑(Yg.length):Int))=dU Yg x0)))))))∧(∀x1:Nat,((x1≤Yg.length)→(ac (decide ((↑x1:Int)<(↑(Yg.length):Int))) (ac (decide ((↑x1:Int)<(4096:Int))) ((aa (↑x1:Int) (Yg.length))∧((ab ((↑x1:Int)+(1:Int)))∧(∃x2:Nat,((x2≤Yg.length)∧((Yg.length - x2<Yg.length - x1)∧((Yg=Yg)∧(((↑x1:Int)+(1:Int)=(↑x2:Int))∧((Yg=Yg)∧(((0:Int)=(0:Int))∧(IntKind.wrap IntKind.u64 (IntKind.wrap IntKind.u64 (IntKind.wrap IntKind.u64 (dU Yg x1 * (1099511628211:Int))+IntKind.wrap IntKind.u64 (Yg.getD ((↑x1:Int).toNat) (0:Int)))+(11:Int))=dU Yg x2)))))))))) ((([FC.ints IntKind.u8 Yg,FC.int IntKind.i64 (0:Int),FC.int IntKind.u64 (dU Yg (Yg.length))]≠[])∧((Yg=Yg)∧(((0:Int)=(0:Int))∧((dU Yg x1=dU Yg (Yg.length))∧True))))∧True)) ((([FC.ints IntKind.u8 Yg,FC.int IntKind.i64 (0:Int),FC.int IntKind.u64 (dU Yg (Yg.length))]≠[])∧((Yg=Yg)∧(((0:Int)=(0:Int))∧((dU Yg x1=dU Yg (Yg.length))∧True))))∧True)))))
set_option maxRecDepth 100000 in
theorem Of (Yg:List Int):aC Tryz.prog (af Gv) ah (Gu Yg) Tryz.f113 (aE Tryz.f113) [] [.c (.ints .u8 (Yg))] (rE Yg)=yG Yg:=by kernel_rfl
theorem Og (Yg:List Int) (Yh:(rE Yg).pre):yG Yg:=by
 simp only [rE,yG,aG,u1,u2,u3,u4,u5,u6,u7,u8,u9,v1,v2,v3,v4,v5,v6,v7,v8,v9,w1,w2,w3,w4,aH,aa,ab,ae,ar] at Yh ⊢;obtain ⟨hb,h0⟩:=Yh;refine ⟨⟨0,by omega,rfl,rfl⟩,fun i hi=>⟨fun h=>⟨fun _=>⟨by omega,by omega,i+1,by omega,by omega,by omega,rfl⟩,fun h2=>by omega⟩,fun h=>⟨by simp,by rw [show i=Yg.length by omega]⟩⟩⟩
theorem Oh:Fits Tryz.prog 113 ⟨[],yF⟩:=by
 refine aJ (Γ:=af Gv) aF Tryz.func113 fun ds p h hp=>?_
 unfold yF at h;split at h
 ·cases h
  exact ⟨ah,Gu _ ,by rw [Of];exact Og _  hp⟩
 ·cases h
theorem gk {Yg:List Int} (hb:bD Yg) (a h:Int) {n:Int} (hn:1≤n):0≤ay Yg a h n∧ay Yg a h n≤n - 1:=by
 have hr:=Gs h
 have hg:=Gr hb a.toNat
 rw [ay,if_neg (by omega)]
 split
 ·exact tmod_in' (by omega) hn
 ·exact tmod_in' (by omega) hn
theorem dH {L:Nat} {a n:Int} (h:0≤a) (hl:a≤(L:Int)):0≤av L a n∧av L a n≤(L:Int):=by
 unfold av;split
 ·omega
 ·split <;> omega
theorem rF {Yg:List Int} (hb:bD Yg) {a h:Int} (h0:0≤a) (h1:a≤(Yg.length:Int)):∀i:Nat,(bz Yg a h i).1.length=i∧(∀x∈(bz Yg a h i).1,0≤x∧x≤(i:Int) - 1)∧0≤(bz Yg a h i).2.1∧(bz Yg a h i).2.1≤(Yg.length:Int)
 | 0=>⟨rfl,fun x hx=>(List.not_mem_nil hx).elim,h0,h1⟩
 | i+1=>by
  obtain ⟨e1,e2,e3,e4⟩:=rF hb (h:=h) h0 h1 i;have v:=gk hb (bz Yg a h i).2.1 (bz Yg a h i).2.2 (n:=(i:Int)+1) (by omega)
  have w:=dH (n:=(i:Int)+1) e3 e4
  refine ⟨?_,fun x hx=>?_,w.1,w.2⟩
  ·show ((bz Yg a h i).1.take _++((i:Int)::(bz Yg a h i).1.drop _)).length=i+1
   rw [List.length_append,List.length_cons,List.length_take,List.length_drop,e1];omega
  ·have hx:x∈(bz Yg a h i).1.take (ay Yg (bz Yg a h i).2.1 (bz Yg a h i).2.2 ((i:Int)+1)).toNat++((i:Int)::(bz Yg a h i).1.drop (ay Yg (bz Yg a h i).2.1 (bz Yg a h i).2.2 ((i:Int)+1)).toNat):=hx
   rcases List.mem_append.1 hx with hx | hx
   ·have:=e2 x (List.mem_of_mem_take hx);omega
   ·rcases List.mem_cons.1 hx with rfl | hx
    ·omega
    ·have:=e2 x (List.mem_of_mem_drop hx);omega
def rG (Yg:List Int) (a:Int) (h:Int) (n:Int):Post:=⟨bD Yg∧0≤a∧a≤(Yg.length:Int)∧Yg.length≤4096∧0≤n∧n≤144,.c (.ints 2 .i64 ((bz Yg a h n.toNat).1)),[.bx [.ints .u8 (Yg),.int .i64 ((bz Yg a h n.toNat).2.1),.int .u64 ((bz Yg a h n.toNat).2.2)]]⟩
def rH:List AD→Option Post
 | [.box [.ints .u8 (Yg),.int .i64 (a),.int .u64 (h)],.c (.int .i64 (n))]=>some (rG Yg a h n)
 | _=>none
def Gw (Yg:List Int) (a:Int) (h:Int) (n:Int):Nat→Option Ann
 | 0=>some (Ann.mk ((Nat)) (fun i=>⟨[(0,.c (.ptr 700 0)),(1,.c (.int .i64 (n))),(5,.c (.own (9))),(6,.c (.int .i64 ((i:Int))))],[(700,some (.box [.orig 700 0 (.ints .u8 (Yg)),.int .i64 ((bz Yg a h i).2.1),.int .u64 ((bz Yg a h i).2.2)])),(9,some (.ints 2 .i64 ((bz Yg a h i).1)))]⟩) (fun i=>(i:Int)≤n) (fun i=>n.toNat - i) (fun _=>am))
 | _=>none
def Gx:List (Nat×Ctr):=[(112,⟨[(0,0)],lN⟩)]
def hZ (Yg:List Int) (a:Int) (h:Int) (x0:Nat):=(ay Yg (((bz Yg a h x0).2).1) (((bz Yg a h x0).2).2) ((↑x0:Int)+(1:Int)))
def yH (Yg:List Int) (a:Int) (h:Int) (n:Int):Prop :=
 ((∃x0:Nat,(((↑x0:Int)≤n)∧((n=n)∧(((0:Int)=(↑x0:Int))∧((Yg=Yg)∧((a=((bz Yg a h x0).2).1)∧((h=((bz Yg a h x0).2).2)∧([]=(bz Yg a h x0).1))))))))∧(∀x1:Nat,(((↑x1:Int)≤n)→(ac (decide ((↑x1:Int)<n)) ((ab ((↑x1:Int)+(1:Int)))∧((((bD Yg)∧(((0:Int)≤((bz Yg a h x1).2).1)∧(((bz Yg a h x1).2).1≤(1099511627776:Int))))∧((Yg=Yg)∧True))∧((ar (((bz Yg a h x1).1).length) (Option.some (hZ Yg a h x1)) Option.none)∧((ae ([(↑x1:Int)].length+(List.take (((bz Yg a h x1).1).length - (hZ Yg a h x1).toNat) (List.drop ((hZ Yg a h x1).toNat) ((bz Yg a h x1).1))).length))∧((ar (((bz Yg a h x1).1).length) Option.none (Option.some (hZ Yg a h x1)))∧((ae (([]:List Int).length+(List.take ((hZ Yg a h x1).toNat) ((bz Yg a h x1).1)).length))∧((ae (([]++List.take ((hZ Yg a h x1).toNat) ((bz Yg a h x1).1)).length+([(↑x1:Int)]++List.take (((bz Yg a h x1).1).length - (hZ Yg a h x1).toNat) (List.drop ((hZ Yg a h x1).toNat) ((bz Yg a h x1).1))).length))∧((ab ((↑x1:Int)+(1:Int)))∧(∃x2:Nat,(((↑x2:Int)≤n)∧((n.toNat - x2<n.toNat - x1)∧((n=n)∧(((↑x1:Int)+(1:Int)=(↑x2:Int))∧((Yg=Yg)∧((av (Yg.length) (((bz Yg a h x1).2).1) ((↑x1:Int)+(1:Int))=((bz Yg a h x2).2).1)∧((az (((bz Yg a h x1).2).2) ((↑x1:Int)+(1:Int))=((bz Yg a h x2).2).2) ∧
 ([]++List.take ((hZ Yg a h x1).toNat) ((bz Yg a h x1).1)++([(↑x1:Int)]++List.take (((bz Yg a h x1).1).length - (hZ Yg a h x1).toNat) (List.drop ((hZ Yg a h x1).toNat) ((bz Yg a h x1).1)))=(bz Yg a h x2).1))))))))))))))))) (((bz Yg a h x1).1=(bz Yg a h (n.toNat)).1)∧(((Yg=Yg)∧((((bz Yg a h x1).2).1=((bz Yg a h (n.toNat)).2).1)∧((((bz Yg a h x1).2).2=((bz Yg a h (n.toNat)).2).2)∧True)))∧True))))))
theorem Oi (Yg:List Int) (a:Int) (h:Int) (n:Int):aC Tryz.prog (af Gx) ah (Gw Yg a h n) Tryz.f222 (aE Tryz.f222) [(0,0)] [.box [.ints .u8 (Yg),.int .i64 (a),.int .u64 (h)],.c (.int .i64 (n))] (rG Yg a h n)=yH Yg a h n:=by kernel_rfl
theorem Oj (Yg:List Int) (a:Int) (h:Int) (n:Int) (Yh:(rG Yg a h n).pre):yH Yg a h n:=by
 simp only [rG,yH,hZ,aG,u1,u2,u3,u4,u5,u6,u7,u8,u9,v1,v2,v3,v4,v5,v6,v7,v8,v9,w1,w2,w3,w4,aH,aa,ab,ae,ar] at Yh ⊢;obtain ⟨hb,h0,h1,h2,h3,h4⟩:=Yh;refine ⟨⟨0,by omega,rfl,rfl,rfl,rfl⟩,fun i hi=>⟨fun hlt=>?_,fun hge=>?_⟩⟩
 ·obtain ⟨e1,e2,e3,e4⟩:=rF hb (h:=h) h0 h1 i
  have v:=gk hb (bz Yg a h i).2.1 (bz Yg a h i).2.2 (n:=(i:Int)+1) (by omega)
  refine ⟨by omega,⟨hb,e3,by omega⟩,by omega,by omega,by omega,by omega,by omega,by omega,i+1,by omega,by omega,by omega,rfl,rfl,?_⟩
  rw [show ∀k,List.take ((bz Yg a h i).1.length - k) (List.drop k (bz Yg a h i).1)=List.drop k (bz Yg a h i).1 from fun k=>List.take_of_length_le (by simp)]
  rfl
 ·rw [show i=n.toNat by omega];exact ⟨rfl,rfl,rfl⟩
theorem Gy:Fits Tryz.prog 222 ⟨[(0,0)],rH⟩:=by
 refine aJ (Γ:=af Gx) (aj oQ aF) Tryz.func222 fun ds p h hp=>?_
 unfold rH at h;split at h
 ·cases h
  exact ⟨ah,Gw _ _ _ _ ,by rw [Oi];exact Oj _ _ _ _  hp⟩
 ·cases h
end Go.Sx
end
section
open Go Go.Proofs
namespace Go.Sx
set_option linter.unusedSimpArgs false
set_option linter.unusedVariables false
def gL (n:Int) (t:List (List Int)):Prop:=(t.length:Int)=n∧∀i,i<t.length→((t.getD i []).length:Int)=n∧∀j,j<t.length→0≤(t.getD i []).getD j 0∧(t.getD i []).getD j 0≤n - 1
def iV (t:List (List Int)) (p:List Int) (x:Nat):Nat→List (List Int)→List (List Int)
 | 0,o=>o
 | y+1,o=>let o':=iV t p x y o
  o'.set (p.getD x 0).toNat ((o'.getD (p.getD x 0).toNat []).set (p.getD y 0).toNat (p.getD ((t.getD x []).getD y 0).toNat 0))
def cV (t:List (List Int)) (p:List Int):Nat→List (List Int)
 | 0=>t
 | x+1=>iV t p x t.length (cV t p x)
theorem Ok {n:Int} {o:List (List Int)} (h:gL n o) {k j:Nat} (hk:(k:Int)<n) (hj:(j:Int)<n) {v:Int} (h0:0≤v) (h1:v≤n - 1):gL n (o.set k ((o.getD k []).set j v)):=by
 refine ⟨by rw [List.length_set];exact h.1,fun i hi=>?_⟩
 rw [List.length_set] at hi;have e:=h.2 i hi
 by_cases hik:k=i
 ·subst hik
  have:(o.set k ((o.getD k []).set j v)).getD k []=(o.getD k []).set j v:=by
   rw [List.getD_eq_getElem?_getD,List.getElem?_set_self hi];rfl
  rw [this,List.length_set,List.length_set];refine ⟨e.1,fun x hx=>?_⟩
  by_cases hxj:j=x
  ·subst hxj
   have:((o.getD k []).set j v).getD j 0=v:=by
    rw [List.getD_eq_getElem?_getD,List.getElem?_set_self (by omega)];rfl
   rw [this];exact ⟨h0,h1⟩
  ·have:((o.getD k []).set j v).getD x 0=(o.getD k []).getD x 0:=by
    rw [List.getD_eq_getElem?_getD,List.getElem?_set_ne hxj,←List.getD_eq_getElem?_getD]
   rw [this];exact e.2 x hx
 ·have:(o.set k ((o.getD k []).set j v)).getD i []=o.getD i []:=by
   rw [List.getD_eq_getElem?_getD,List.getElem?_set_ne hik,←List.getD_eq_getElem?_getD]
  rw [this,List.length_set];exact e
section
variable {t:List (List Int)} {p:List Int} (ht:gL (t.length:Int) t) (hp:p.length=t.length) (hq:∀i,i<p.length→0≤p.getD i 0∧p.getD i 0≤(t.length:Int) - 1)
include ht hp hq
theorem yI (x:Nat) (hx:x<t.length):∀(y:Nat),y≤t.length→∀o,gL (t.length:Int) o→gL (t.length:Int) (iV t p x y o)
 | 0,_,o,h=>h
 | y+1,hy,o,h=>by
  have e:=yI x hx y (by omega) o h
  have q1:=hq x (by omega)
  have q2:=hq y (by omega)
  have t1:=(ht.2 x hx).2 y (by omega)
  have q3:=hq ((t.getD x []).getD y 0).toNat (by omega)
  exact Ok e (by omega) (by omega) q3.1 q3.2
theorem yJ:∀(x:Nat),x≤t.length→gL (t.length:Int) (cV t p x)
 | 0,_=>ht
 | x+1,hx=>yI ht hp hq x (by omega) _ (Nat.le_refl _) _ (yJ x (by omega))
end
def rI (t:List (List Int)) (p:List Int):Post:=⟨au t∧t.length≤144∧gL (t.length:Int) t∧p.length=t.length∧(∀i,i<p.length→0≤p.getD i 0∧p.getD i 0≤(t.length:Int) - 1),.c (.rows 57 2 .i64 (cV t p t.length)),[]⟩
def rJ:List AD→Option Post
 | [.c (.rows .i64 (t)),.c (.ints .i64 (p))]=>some (rI t p)
 | _=>none
def Gz (t:List (List Int)) (p:List Int):Nat→Option Ann
 | 0=>some (Ann.mk ((Nat)) (fun i=>⟨[(0,.c (.ro (.rows .i64 (t)))),(1,.c (.ro (.ints .i64 (p)))),(5,.c (.own (9))),(6,.c (.int .i64 ((i:Int))))],[(9,some (.rows 0 57 2 .i64 (cV t p i)))]⟩) (fun i=>i≤t.length) (fun i=>t.length - i) (fun i=>fun b_=>match b_ with | 2=>some (Ann.mk ((Nat)) (fun j=>⟨[(0,.c (.ro (.rows .i64 (t)))),(1,.c (.ro (.ints .i64 (p)))),(5,.c (.own (9))),(6,.c (.int .i64 ((i:Int)))),(7,.c (.int .i64 ((j:Int))))],[(9,some (.rows 0 57 2 .i64 (iV t p i j (cV t p i))))]⟩) (fun j=>j≤t.length∧i<t.length) (fun j=>t.length - j) (fun _=>am)) | _=>none))
 | _=>none
def GA:List (Nat×Ctr):=[(128,⟨[],uJ⟩)]
def yK (t:List (List Int)) (p:List Int):Prop :=
 (((au t)∧True)∧((∃x0:Nat,((x0≤t.length)∧((t=t)∧((p=p)∧(((0:Int)=(↑x0:Int))∧(t=cV t p x0))))))∧(∀x1:Nat,((x1≤t.length)→(ac (decide ((↑x1:Int)<(↑(t.length):Int))) ((∃x2:Nat,(((x2≤t.length)∧(x1<t.length))∧((t=t)∧((p=p)∧(((↑x1:Int)=(↑x1:Int))∧(((0:Int)=(↑x2:Int))∧(cV t p x1=iV t p x1 x2 (cV t p x1))))))))∧(∀x3:Nat,(((x3≤t.length)∧(x1<t.length))→(ac (decide ((↑x3:Int)<(↑(t.length):Int))) ((aa (↑x1:Int) (p.length))∧((aa (p.getD ((↑x1:Int).toNat) (0:Int)) ((iV t p x1 x3 (cV t p x1)).length))∧((aa (↑x3:Int) (p.length))∧((aa (↑x1:Int) (t.length))∧((aa (↑x3:Int) ((t.getD ((↑x1:Int).toNat) []).length))∧((aa ((List.getD t ((↑x1:Int).toNat) []).getD ((↑x3:Int).toNat) (0:Int)) (p.length))∧((aa (p.getD ((↑x3:Int).toNat) (0:Int)) (((iV t p x1 x3 (cV t p x1)).getD ((p.getD ((↑x1:Int).toNat) (0:Int)).toNat) []).length))∧((ab ((↑x3:Int)+(1:Int)))∧(∃x4:Nat,(((x4≤t.length)∧(x1<t.length))∧((t.length - x4<t.length - x3)∧((t=t)∧((p=p)∧(((↑x1:Int)=(↑x1:Int))∧(((↑x3:Int)+(1:Int)=(↑x4:Int))∧(List.set (iV t p x1 x3 (cV t p x1)) ((p.getD ((↑x1:Int).toNat) (0:Int)).toNat) (List.set ((iV t p x1 x3 (cV t p x1)).getD ((p.getD ((↑x1:Int).toNat) (0:Int)).toNat) []) ((p.getD ((↑x3:Int).toNat) (0:Int)).toNat) (p.getD (((List.getD t ((↑x1:Int).toNat) []).getD ((↑x3:Int).toNat) (0:Int)).toNat) (0:Int)))=iV t p x1 x4 (cV t p x1))))))))))))))))) ((ab ((↑x1:Int)+(1:Int)))∧(∃x5:Nat,((x5≤t.length) ∧
 ((t.length - x5<t.length - x1)∧((t=t)∧((p=p)∧(((↑x1:Int)+(1:Int)=(↑x5:Int))∧(iV t p x1 x3 (cV t p x1)=cV t p x5)))))))))))) ((cV t p x1=cV t p (t.length))∧True))))))
theorem Ol (t:List (List Int)) (p:List Int):aC Tryz.prog (af GA) ah (Gz t p) Tryz.f182 (aE Tryz.f182) [] [.c (.rows .i64 (t)),.c (.ints .i64 (p))] (rI t p)=yK t p:=by kernel_rfl
theorem Om (t:List (List Int)) (p:List Int) (Yh:(rI t p).pre):yK t p:=by
 simp only [rI,yK,aG,u1,u2,u3,u4,u5,u6,u7,u8,u9,v1,v2,v3,v4,v5,v6,v7,v8,v9,w1,w2,w3,w4,aH,aa,ab,ae,ar] at Yh ⊢;obtain ⟨r0,h0,h1,h2,h3⟩:=Yh;have q:=fun x (hx:x<t.length)=>h3 x (by omega)
 have I:=yJ h1 (by omega) h3
 refine ⟨r0,⟨0,by omega,rfl,rfl⟩,fun i hi=>⟨fun h=>⟨⟨0,⟨by omega,by omega⟩,rfl,rfl⟩,fun j ⟨hj,_⟩=>⟨fun h4=>?_,fun h4=>?_⟩⟩,fun h=>by rw [show i=t.length by omega]⟩⟩
 ·have C:=yI h1 (by omega) h3 i (by omega) j (by omega) _ (I i (by omega))
  have q1:=q i (by omega)
  have q2:=q j (by omega)
  have t1:=h1.2 i (by omega)
  have t2:=t1.2 j (by omega)
  have c1:=C.1
  have c2:=(C.2 (p.getD i 0).toNat (by omega)).1
  exact ⟨by omega,by omega,by omega,by omega,by omega,by omega,by omega,by omega,j+1,by omega,by omega,by omega,rfl⟩
 ·exact ⟨by omega,i+1,by omega,by omega,by omega,by rw [show j=t.length by omega];rfl⟩
theorem GB:Fits Tryz.prog 182 ⟨[],rJ⟩:=by
 refine aJ (Γ:=af GA) (aj JV aF) Tryz.func182 fun ds p h hp=>?_
 unfold rJ at h;split at h
 ·cases h
  exact ⟨ah,Gz _ _ ,by rw [Ol];exact Om _ _  hp⟩
 ·cases h
end Go.Sx
end
section
open Go Go.Proofs
namespace Go.Sx
set_option linter.unusedSimpArgs false
set_option linter.unusedVariables false
def GC (p:List Int):Nat→List Int
 | 0=>List.replicate p.length 0
 | i+1=>(GC p i).set (p.getD i 0).toNat (i:Int)
def oR (p:List Int):List Int:=GC p p.length
def bU (p q:List Int):List Int:=p.map fun x=>q.getD x.toNat 0
def lO (n:Nat) (p:List Int):Prop:=∀i,i<p.length→0≤p.getD i 0∧p.getD i 0<(n:Int)
def rK (p:List Int) (q:List Int):Post:=⟨ae p.length∧lO q.length p,.c (.ints 2 .i64 (bU p q)),[]⟩
def rL:List AD→Option Post
 | [.c (.ints .i64 (p)),.c (.ints .i64 (q))]=>some (rK p q)
 | _=>none
def GD (p:List Int) (q:List Int):Nat→Option Ann
 | 0=>some (Ann.mk ((Nat)) (fun i=>⟨[(0,.c (.ro (.ints .i64 (p)))),(1,.c (.ro (.ints .i64 (q)))),(5,.c (.own (10))),(6,.c (.int .i64 ((i:Int))))],[(10,some (.ints 2 .i64 (bU (p.take i) q)))]⟩) (fun i=>i≤p.length) (fun i=>p.length - i) (fun _=>am))
 | _=>none
def GE:List (Nat×Ctr):=[]
def yL (p:List Int) (q:List Int):Prop :=
 ((∃x0:Nat,((x0≤p.length)∧((p=p)∧((q=q)∧(((0:Int)=(↑x0:Int))∧([]=bU (List.take x0 p) q))))))∧(∀x1:Nat,((x1≤p.length)→(ac (decide ((↑x1:Int)<(↑(p.length):Int))) ((aa (↑x1:Int) (p.length))∧((aa (p.getD ((↑x1:Int).toNat) (0:Int)) (q.length))∧((ae ((bU (List.take x1 p) q).length+[q.getD ((p.getD ((↑x1:Int).toNat) (0:Int)).toNat) (0:Int)].length))∧((ab ((↑x1:Int)+(1:Int)))∧(∃x2:Nat,((x2≤p.length)∧((p.length - x2<p.length - x1)∧((p=p)∧((q=q)∧(((↑x1:Int)+(1:Int)=(↑x2:Int))∧(bU (List.take x1 p) q++[q.getD ((p.getD ((↑x1:Int).toNat) (0:Int)).toNat) (0:Int)]=bU (List.take x2 p) q))))))))))) ((bU (List.take x1 p) q=bU p q)∧True)))))
theorem On (p:List Int) (q:List Int):aC Tryz.prog (af GE) ah (GD p q) Tryz.f226 (aE Tryz.f226) [] [.c (.ints .i64 (p)),.c (.ints .i64 (q))] (rK p q)=yL p q:=by kernel_rfl
theorem Oo (p:List Int) (q:List Int) (Yh:(rK p q).pre):yL p q:=by
 simp only [rK,yL,aG,u1,u2,u3,u4,u5,u6,u7,u8,u9,v1,v2,v3,v4,v5,v6,v7,v8,v9,w1,w2,w3,w4,aH,aa,ab,ae,ar] at Yh ⊢;obtain ⟨h1,h2⟩:=Yh;refine ⟨⟨0,by omega,rfl,rfl⟩,fun i hi=>⟨fun h=>?_,fun h=>?_⟩⟩
 ·have hr:=h2 i (by omega)
  have hl:(bU (p.take i) q).length=i:=by rw [bU,List.length_map,List.length_take];omega
  refine ⟨by omega,by omega,by omega,by omega,i+1,by omega,by omega,by omega,?_⟩
  rw [←dF p 0 i (by omega),bU,bU,List.map_append];rfl
 ·rw [List.take_of_length_le (by omega)]
theorem GF:Fits Tryz.prog 226 ⟨[],rL⟩:=by
 refine aJ (Γ:=af GE) aF Tryz.func226 fun ds p h hp=>?_
 unfold rL at h;split at h
 ·cases h
  exact ⟨ah,GD _ _ ,by rw [On];exact Oo _ _  hp⟩
 ·cases h
end Go.Sx
end
section
open Go Go.Proofs
namespace Go.Sx
set_option linter.unusedSimpArgs false
set_option linter.unusedVariables false
abbrev Dr:=List (List Int)×Int×Int
def GG (z:List Int):List (List Int)→Nat
 | []=>0
 | a::r=>if a=z then 0 else GG z r+1
def GH (A:List (List Int)) (x y:Nat):List Int:=bU (bU (oR (A.getD x [])) (A.getD y [])) (A.getD x [])
structure CjOk (A:List (List Int)):Prop where
 le:A.length≤6
 ge:1≤A.length
 len:∀x,x<A.length→(A.getD x []).length=3
 el:∀x,x<A.length→lO 3 (A.getD x [])
 at_:∀x y,x<A.length→y<A.length→GG (GH A x y) A<A.length
 th:∀x y,x<A.length→y<A.length→(bU (oR (A.getD x [])) (A.getD y [])).length=3∧lO 3 (bU (oR (A.getD x [])) (A.getD y []))
 bk:∀x,x<A.length→(oR (A.getD x [])).length=3∧lO 3 (oR (A.getD x []))
 z:∀x y,x<A.length→y<A.length→(GH A x y).length=3
end Go.Sx
end
section
open Go Go.Proofs
namespace Go.Sx
set_option linter.unusedSimpArgs false
set_option linter.unusedVariables false
theorem Oq {Yg:List Int} (hb:bD Yg) {a h:Int} (h0:0≤a) (h1:a≤(Yg.length:Int)) (n:Nat):(bz Yg a h n).1.length=n∧∀i,i<(bz Yg a h n).1.length→0≤(bz Yg a h n).1.getD i 0∧(bz Yg a h n).1.getD i 0≤(n:Int) - 1:=by
 have D:=rF hb (h:=h) h0 h1 n
 refine ⟨D.1,fun i hi=>?_⟩
 have:=D.2.1 _ (List.getElem_mem hi)
 rwa [←ce _ 0 i hi] at this
theorem nq {n:Int} {t:List (List Int)} (h:gL n t) (h1:n≤144):au t:=by
 have e:=h.1
 refine ⟨by omega,fun r hr=>?_⟩
 obtain ⟨i,hi,rfl⟩:=List.mem_iff_getElem.1 hr;have:=(h.2 i hi).1
 rw [ce t [] i hi] at this;omega
end Go.Sx
end
end
section
open Go Go.Proofs
namespace Go.Sx
set_option linter.unusedSimpArgs false
set_option linter.unusedVariables false
/- Permutations of n elements that are closed. -/
structure AuOk (n:Nat) (A:List (List Int)):Prop where
 pos:1≤A.length
 len:∀i,i<A.length→(A.getD i []).length=n
 rng:∀i x,i<A.length→x<n→0≤en A i x∧en A i x<(n:Int)
 cl:∀i j,i<A.length→j<A.length→bU (A.getD i []) (A.getD j [])∈A
def iW (A:List (List Int)) (i j:Int):Nat:=f7 A (bU (A.getD i.toNat []) (A.getD j.toNat []))
structure KOk (n m:Nat) (K:List Int):Prop where
 len:K.length=n
 rng:∀x,x<n→-1≤K.getD x 0∧K.getD x 0<(m:Int)
theorem KOk.set {n m:Nat} {K:List Int} (h:KOk n m K) (z:Nat) {w:Int} (hw:-1≤w∧w<(m:Int)):KOk n m (K.set z w) where
 len:=by rw [List.length_set];exact h.len
 rng x hx:=by
  rw [jS _ _ _ _ (by rw [h.len];exact hx)]
  split
  ·exact hw
  ·exact h.rng x hx
def aM (K:List Int):Nat:=K.countP fun x=>decide (x<0)
theorem rM {K:List Int} {z:Nat} {w:Int} (hz:z<K.length) (h:K.getD z 0<0) (hw:0≤w):aM (K.set z w)+1=aM K:=by
 unfold aM
 induction K generalizing z with
 | nil=>simp at hz
 | cons k K ih =>
  cases z with
  | zero =>
   have h:k<0:=h
   have hw':¬ w<0:=by omega
   simp [h,hw']
  | succ z =>
   have:=ih (z:=z) (by simpa using hz) h
   simp only [List.set_cons_succ,List.countP_cons];omega
theorem Or (K:List Int):aM K≤K.length:=List.countP_le_length
def fO (t A:List (List Int)) (o:List Int) (x y:Nat):Nat:=(en t x (en A (o.getD x 0).toNat y).toNat).toNat
def gm (A:List (List Int)) (o:List Int) (x y:Nat):Int:=(iW A (o.getD y 0) (o.getD x 0):Int)
def ia (t A:List (List Int)) (o:List Int) (x y:Nat):Option (List Int) :=
 if o.getD x 0<0∨o.getD y 0<0 then some o
 else if o.getD (fO t A o x y) 0<0 then some (o.set (fO t A o x y) (gm A o x y))
 else if o.getD (fO t A o x y) 0=gm A o x y then some o else none
def d5 (t A:List (List Int)) (o:List Int) (x:Nat):Nat→Option (List Int)
 | 0=>some o
 | y+1=>(d5 t A o x y).bind fun o'=>ia t A o' x y
def fw (t A:List (List Int)) (o:List Int):Nat→Option (List Int)
 | 0=>some o
 | x+1=>(fw t A o x).bind fun o'=>d5 t A o' x t.length
def gn (t A:List (List Int)):Nat→List Int→Option (List Int)
 | 0,o=>some o
 | fu+1,o=>match fw t A o t.length with
  | none=>none
  | some o'=>if aM o'<aM o then gn t A fu o' else some o'
def eT (t A:List (List Int)) (K:List Int):Option (List Int):=gn t A (t.length+1) K
section
variable {n:Nat} {t A:List (List Int)}
theorem GI (hA:AuOk n A) {o:List Int} (ho:KOk n A.length o) {x y:Nat} (hx:x<n) (hy:y<n) (h1:0≤o.getD x 0) (h2:0≤o.getD y 0):bU (A.getD (o.getD y 0).toNat []) (A.getD (o.getD x 0).toNat [])∈A∧0≤gm A o x y∧gm A o x y<(A.length:Int):=by
 have a:=ho.rng x hx
 have b:=ho.rng y hy
 have m:=hA.cl (o.getD y 0).toNat (o.getD x 0).toNat (by omega) (by omega)
 have:=(pI m).1
 refine ⟨m,?_⟩
 unfold gm iW;omega
theorem GJ (ht:ba n t) (hA:AuOk n A) {o:List Int} (ho:KOk n A.length o) {x y:Nat} (hx:x<n) (hy:y<n) (h1:0≤o.getD x 0):(0≤en A (o.getD x 0).toNat y∧en A (o.getD x 0).toNat y<(n:Int))∧(0≤en t x (en A (o.getD x 0).toNat y).toNat∧en t x (en A (o.getD x 0).toNat y).toNat<(n:Int))∧fO t A o x y<n:=by
 have a:=ho.rng x hx
 have b:=hA.rng (o.getD x 0).toNat y (by omega) hy
 have c:=(ht.2 x hx).2 (en A (o.getD x 0).toNat y).toNat (by omega)
 refine ⟨b,c,?_⟩
 unfold fO;omega
theorem Ot (ht:ba n t) (hA:AuOk n A) {o o':List Int} (ho:KOk n A.length o) {x y:Nat} (hx:x<n) (hy:y<n) (h:ia t A o x y=some o'):KOk n A.length o'∧aM o'≤aM o:=by
 unfold ia at h;split at h
 ·cases h;exact ⟨ho,Nat.le_refl _⟩
 ·rename_i hn
  have h1:0≤o.getD x 0:=by omega
  have h2:0≤o.getD y 0:=by omega
  have w:=GI hA ho hx hy h1 h2
  have z:=GJ ht hA ho hx hy h1
  split at h
  ·rename_i hz
   cases h;have:=rM (K:=o) (z:=fO t A o x y) (by rw [ho.len];exact z.2.2) hz w.2.1
   exact ⟨ho.set _ ⟨by omega,w.2.2⟩,by omega⟩
  ·split at h
   ·cases h;exact ⟨ho,Nat.le_refl _⟩
   ·cases h
theorem GK (ht:ba n t) (hA:AuOk n A) {o:List Int} (ho:KOk n A.length o) {x:Nat} (hx:x<n):∀(y:Nat) {o':List Int},y≤n→d5 t A o x y=some o'→KOk n A.length o'∧aM o'≤aM o
 | 0,o',_,h=>by cases h;exact ⟨ho,Nat.le_refl _⟩
 | y+1,o',hy,h=>by
  rw [d5] at h;obtain ⟨o1,h1,h2⟩:=Option.bind_eq_some_iff.1 h;have a:=GK ht hA ho hx y (by omega) h1
  have b:=Ot ht hA a.1 hx (by omega) h2
  exact ⟨b.1,by omega⟩
theorem GL (ht:ba n t) (hA:AuOk n A) {o:List Int} (ho:KOk n A.length o):∀(x:Nat) {o':List Int},x≤n→fw t A o x=some o'→KOk n A.length o'∧aM o'≤aM o
 | 0,o',_,h=>by cases h;exact ⟨ho,Nat.le_refl _⟩
 | x+1,o',hx,h=>by
  rw [fw] at h;obtain ⟨o1,h1,h2⟩:=Option.bind_eq_some_iff.1 h;have a:=GL ht hA ho x (by omega) h1
  have b:=GK ht hA a.1 (by omega) t.length (by rw [ht.1];exact Nat.le_refl _) h2
  exact ⟨b.1,by omega⟩
theorem GM (ht:ba n t) (hA:AuOk n A):∀(fu:Nat) {o o':List Int},KOk n A.length o→gn t A fu o=some o'→KOk n A.length o'∧aM o'≤aM o
 | 0,o,o',ho,h=>by cases h;exact ⟨ho,Nat.le_refl _⟩
 | fu+1,o,o',ho,h=>by
  rw [gn] at h;split at h
  ·cases h
  ·rename_i o1 h1
   have a:=GL ht hA ho t.length (by rw [ht.1];exact Nat.le_refl _) h1
   split at h
   ·have b:=GM ht hA fu a.1 h
    exact ⟨b.1,by omega⟩
   ·cases h;exact a
end
/- The order of tables, and the list of circles. -/
def dg:List (List Int)→List (List Int)→Bool
 | x::a,y::b=>if x=y then dg a b else bE x y
 | _,_=>false
def ep (c:List (List Int)):List (List (List Int))→Nat
 | []=>0
 | k::K=>if dg k c=true then ep c K+1 else 0
theorem yM (c:List (List Int)):∀K,ep c K≤K.length
 | []=>Nat.le_refl _
 | k::K=>by
  rw [ep];split
  ·exact Nat.succ_le_succ (yM c K)
  ·exact Nat.zero_le _
theorem yN (c:List (List Int)):∀(K:List (List (List Int))) (i:Nat),(∀j,j<i→dg (K.getD j []) c=true)→i≤K.length→(∀h:i<K.length,dg (K.getD i []) c=false)→ep c K=i
 | [],i,_,h,_=>by simp at h;subst h;rfl
 | k::K,0,_,_,h=>by
  have:=h (by simp)
  have h2:dg k c=false:=this
  rw [ep,if_neg (by rw [h2];simp)]
 | k::K,i+1,a,b,d=>by
  have h0:dg k c=true:=a 0 (by omega)
  rw [ep,if_pos h0,yN c K i (fun j hj=>a (j+1) (by omega)) (by simpa using b) (fun h=>d (by simpa using h))]
def nr (out:List (List (List Int))) (c:List (List Int)):List (List (List Int)):=out.take (ep c out)++c::out.drop (ep c out)
theorem yO (out:List (List (List Int))) (c:List (List Int)):(nr out c).length=out.length+1:=by
 have:=yM c out
 simp [nr];omega
theorem Ou (out:List (List (List Int))) (c x:List (List Int)):x∈nr out c↔x=c∨x∈out:=by
 have h1:(nr out c).Perm (c::(out.take (ep c out)++out.drop (ep c out))):=List.perm_middle
 rw [List.take_append_drop] at h1;rw [h1.mem_iff,List.mem_cons]
def bf:List Int→Nat
 | []=>0
 | k::K=>if 0≤k then bf K+1 else 0
theorem oS:∀K,bf K≤K.length
 | []=>Nat.le_refl _
 | k::K=>by
  rw [bf];split
  ·exact Nat.succ_le_succ (oS K)
  ·exact Nat.zero_le _
theorem yP:∀(K:List Int) (i:Nat),(∀j,j<i→0≤K.getD j 0)→i≤K.length→(∀h:i<K.length,K.getD i 0<0)→bf K=i
 | [],i,_,h,_=>by simp at h;subst h;rfl
 | k::K,0,_,_,h=>by
  have h2:k<0:=h (by simp)
  rw [bf,if_neg (by omega)]
 | k::K,i+1,a,b,d=>by
  have h0:0≤k:=a 0 (by omega)
  rw [bf,if_pos h0,yP K i (fun j hj=>a (j+1) (by omega)) (by simpa using b) (fun h=>d (by simpa using h))]
theorem GN:∀(K:List Int),bf K<K.length→K.getD (bf K) 0<0
 | [],h=>by simp at h
 | k::K,h=>by
  rw [bf] at h ⊢;split
  ·rename_i q
   rw [if_pos q] at h;exact GN K (by simpa using h)
  ·rename_i q
   show k<0
   omega
theorem rN:∀(K:List Int),bf K=K.length→∀j,j<K.length→0≤K.getD j 0
 | [],_,j,h=>by simp at h
 | k::K,h,j,hj=>by
  rw [bf] at h;split at h
  ·rename_i q
   cases j with
   | zero=>exact q
   | succ j=>exact rN K (by simpa using h) j (by simpa using hj)
  ·simp at h
def bX (t A:List (List Int)) (K:List Int):List (List Int):=(List.range t.length).map fun y=>bU (A.getD (K.getD y 0).toNat []) (t.getD y [])
def dV (g:Nat→List (List (List Int))→List (List (List Int))) (out:List (List (List Int))):Nat→List (List (List Int))
 | 0=>out
 | i+1=>g i (dV g out i)
def dp (t A:List (List Int)) (rec:List Int→List (List (List Int))→List (List (List Int))) (K:List Int) (i:Nat) (o:List (List (List Int))):List (List (List Int)) :=
 match eT t A (K.set (bf K) (i:Int)) with
 | none=>o
 | some K'=>rec K' o
def cO (t A:List (List Int)):Nat→List Int→List (List (List Int))→List (List (List Int))
 | 0,_,out=>out
 | d+1,K,out=>if bf K=K.length then nr out (bX t A K) else dV (dp t A (cO t A d) K) out A.length
theorem rO {P:List (List (List Int))→Prop} {g:Nat→List (List (List Int))→List (List (List Int))} {out:List (List (List Int))} (h0:P out):∀m,(∀i o,i<m→P o→P (g i o))→P (dV g out m)
 | 0,_=>h0
 | m+1,hg=>hg m _ (by omega) (rO h0 m fun i o hi=>hg i o (by omega))
section
variable {n:Nat} {t A:List (List Int)}
theorem yQ {K:List Int} (hx:bf K<K.length) {i:Nat}:aM (K.set (bf K) (i:Int))+1=aM K:=rM hx (GN K hx) (by omega)
theorem nt (ht:ba n t) (hA:AuOk n A) {K K':List Int} (hK:KOk n A.length K) (hx:bf K<K.length) {i:Nat} (hi:i<A.length) (h:eT t A (K.set (bf K) (i:Int))=some K'):KOk n A.length K'∧aM K'+1≤aM K:=by
 have a:=GM ht hA _ (hK.set (bf K) (w:=(i:Int)) ⟨by omega,by omega⟩) h
 have:=yQ hx (i:=i)
 exact ⟨a.1,by omega⟩
theorem yR (ht:ba n t) (hA:AuOk n A) {Q:List (List Int)→Prop} (hQ:∀K,KOk n A.length K→bf K=K.length→Q (bX t A K)):∀(d:Nat) (K:List Int) (out:List (List (List Int))),KOk n A.length K→(∀c,c∈out→Q c)→∀c,c∈cO t A d K out→Q c
 | 0,K,out,_,ho=>ho
 | d+1,K,out,hK,ho=>by
  rw [cO];split
  ·rename_i h
   intro c hc
   rcases (Ou _ _ _).1 hc with rfl | hc
   ·exact hQ K hK h
   ·exact ho c hc
  ·rename_i h
   have hx:bf K<K.length:=by have:=oS K;omega
   refine rO (P:=fun o=>∀c,c∈o→Q c) ho A.length fun i o hi hP=>?_
   unfold dp;split
   ·exact hP
   ·rename_i K' hs
    exact yR ht hA hQ d K' o (nt ht hA hK hx hi hs).1 hP
theorem yS {c:Nat} {g:Nat→List (List (List Int))→List (List (List Int))} {out:List (List (List Int))}:∀m,(∀i o,i<m→(g i o).length≤o.length+c)→(dV g out m).length≤out.length+m * c
 | 0,_=>by simp [dV]
 | m+1,hg=>by
  have a:=yS (g:=g) (out:=out) (c:=c) m fun i o hi=>hg i o (by omega)
  have b:=hg m (dV g out m) (by omega)
  rw [dV,Nat.succ_mul];omega
theorem GO (ht:ba n t) (hA:AuOk n A) {M:Nat} (hM:A.length≤M) (h1:1≤M):∀(d:Nat) (K:List Int) (out:List (List (List Int))),KOk n A.length K→(cO t A d K out).length≤out.length+M ^ aM K
 | 0,K,out,_=>by rw [cO];omega
 | d+1,K,out,hK=>by
  rw [cO];split
  ·have:=Nat.one_le_pow (aM K) M h1
   rw [yO];omega
  ·rename_i h
   have hx:bf K<K.length:=by have:=oS K;omega
   have hp:1≤aM K:=by have:=yQ hx (i:=0);omega
   have:=yS (g:=dp t A (cO t A d) K) (out:=out) (c:=M ^ (aM K - 1)) A.length fun i o hi=>by
    unfold dp;split
    ·omega
    ·rename_i K' hs
     have q:=nt ht hA hK hx hi hs
     have a:=GO ht hA hM h1 d K' o q.1
     have b:M ^ aM K'≤M ^ (aM K - 1):=Nat.pow_le_pow_right h1 (by omega)
     omega
   have e:M ^ aM K=M ^ (aM K - 1) * M:=by rw [←Nat.pow_succ];congr 1;omega
   have f:A.length * M ^ (aM K - 1)≤M ^ (aM K - 1) * M:=by rw [Nat.mul_comm];exact Nat.mul_le_mul_left _ hM
   omega
theorem GP:∀(d:Nat) (K:List Int) (out:List (List (List Int))),out.length≤(cO t A d K out).length
 | 0,K,out=>Nat.le_refl _
 | d+1,K,out=>by
  rw [cO];split
  ·rw [yO];omega
  ·refine rO (P:=fun o=>out.length≤o.length) (Nat.le_refl _) A.length fun i o _ hP=>?_
   unfold dp;split
   ·exact hP
   ·exact Nat.le_trans hP (GP d _ o)
def Z0 (n:Nat) (o:List Int):Prop:=o.length=n∧∀x,x<n→o.getD x 0=-1∨o.getD x 0=0
theorem Z0.ok {o:List Int} (z:Z0 n o) (hA:AuOk n A):KOk n A.length o:=⟨z.1,fun x hx=>by
 have:=hA.pos
 rcases z.2 x hx with h | h <;> omega⟩
theorem Z0.set {o:List Int} (z:Z0 n o) (q:Nat):Z0 n (o.set q 0):=⟨by rw [List.length_set];exact z.1,fun x hx=>by
 rw [jS _ _ _ _ (by rw [z.1];exact hx)]
 split
 ·exact .inr rfl
 ·exact z.2 x hx⟩
theorem Ov (h0:iW A 0 0=0) {o:List Int} (hz:Z0 n o) (x y:Nat):∃o',ia t A o x y=some o'∧Z0 n o':=by
 unfold ia;by_cases c:o.getD x 0<0∨o.getD y 0<0
 ·rw [if_pos c];exact ⟨o,rfl,hz⟩
 ·rw [if_neg c]
  have e:∀x,¬ o.getD x 0<0→o.getD x 0=0:=fun x h=>by
   by_cases q:x<n
   ·rcases hz.2 x q with r | r <;> omega
   ·rw [List.getD_eq_getElem?_getD,List.getElem?_eq_none (by have:=hz.1;omega)];rfl
  have w:gm A o x y=0:=by
   unfold gm;rw [e x (fun q=>c (.inl q)),e y (fun q=>c (.inr q)),h0];rfl
  rw [w];by_cases z:o.getD (fO t A o x y) 0<0
  ·rw [if_pos z];exact ⟨_,rfl,hz.set _⟩
  ·rw [if_neg z,if_pos (e _ z)];exact ⟨o,rfl,hz⟩
theorem GQ (h0:iW A 0 0=0) {o:List Int} (hz:Z0 n o) (x:Nat):∀y,∃o',d5 t A o x y=some o'∧Z0 n o'
 | 0=>⟨o,rfl,hz⟩
 | y+1=>by
  obtain ⟨o1,h1,z1⟩:=GQ h0 hz x y;obtain ⟨o2,h2,z2⟩:=Ov (t:=t) h0 z1 x y;exact ⟨o2,by rw [d5,h1];exact h2,z2⟩
theorem GR (h0:iW A 0 0=0) {o:List Int} (hz:Z0 n o):∀x,∃o',fw t A o x=some o'∧Z0 n o'
 | 0=>⟨o,rfl,hz⟩
 | x+1=>by
  obtain ⟨o1,h1,z1⟩:=GR h0 hz x;obtain ⟨o2,h2,z2⟩:=GQ (t:=t) h0 z1 x t.length;exact ⟨o2,by rw [fw,h1];exact h2,z2⟩
theorem GS (h0:iW A 0 0=0):∀(fu:Nat) {o:List Int},Z0 n o→∃o',gn t A fu o=some o'∧Z0 n o'
 | 0,o,hz=>⟨o,rfl,hz⟩
 | fu+1,o,hz=>by
  obtain ⟨o1,h1,z1⟩:=GR (t:=t) h0 hz t.length;rw [gn,h1];simp only;split
  ·exact GS h0 fu z1
  ·exact ⟨o1,rfl,z1⟩
theorem GT (ht:ba n t) (hA:AuOk n A) (h0:iW A 0 0=0):∀(d:Nat) (K:List Int) (out:List (List (List Int))),Z0 n K→aM K<d→1≤(cO t A d K out).length
 | 0,K,out,_,h=>by omega
 | d+1,K,out,hz,hd=>by
  rw [cO];split
  ·rw [yO];omega
  ·rename_i h
   have hx:bf K<K.length:=by have:=oS K;omega
   have key:∀m,1≤m→m≤A.length→1≤(dV (dp t A (cO t A d) K) out m).length:=fun m=>by
    induction m with
    | zero=>intro h;omega
    | succ m ih =>
     intro _ hm
     rw [dV];by_cases q:m=0
     ·subst q
      unfold dp;obtain ⟨K',h1,z1⟩:=GS (t:=t) h0 (t.length+1) (hz.set (bf K));have h1:eT t A (K.set (bf K) ((0:Nat):Int))=some K':=h1
      rw [h1];have:=nt ht hA (hz.ok hA) hx (i:=0) (by omega) h1
      exact GT ht hA h0 d K' _ z1 (by omega)
     ·have:=ih (by omega) (by omega)
      unfold dp;split
      ·exact this
      ·exact Nat.le_trans this (GP d _ _)
   exact key A.length hA.pos (Nat.le_refl _)
end
def gp (t A:List (List Int)):List (List (List Int)):=cO t A 12 ((List.replicate t.length (-1)).set 0 0) []
theorem yT {n:Nat}:Z0 n ((List.replicate n (-1)).set 0 0):=by
 have z:Z0 n (List.replicate n (-1)):=⟨by simp,fun x hx=>.inl (by simp [List.getD_eq_getElem?_getD,hx])⟩
 exact z.set 0
theorem GU {n:Nat} (h:1≤n):aM ((List.replicate n (-1)).set 0 0)+1=n:=by
 rw [rM (by simp;omega) (by simp [List.getD_eq_getElem?_getD,show 0<n by omega]) (by omega)]
 simp [aM,List.countP_replicate]
theorem Ow {n:Nat} {t A:List (List Int)} (ht:ba n t) (hn:1≤n) (hn2:n≤12) (hA:AuOk n A) (h0:iW A 0 0=0):1≤(gp t A).length∧∀c,c∈gp t A→ba n c:=by
 have e:t.length=n:=ht.1
 refine ⟨GT ht hA h0 _ _ _ (by rw [e];exact yT) (by have:=GU hn;rw [e];omega),?_⟩
 refine yR ht hA (Q:=ba n) (fun K hK hp=>?_) 12 _ [] (Z0.ok (by rw [e];exact yT) hA) (fun c hc=>by simp at hc)
 refine ⟨by simp [bX,e],fun x hx=>?_⟩
 have hk:=rN K hp x (by rw [hK.len];exact hx)
 have hr:=hK.rng x hx
 have row:(bX t A K).getD x []=bU (A.getD (K.getD x 0).toNat []) (t.getD x []):=by
  rw [bX];simp [List.getD_eq_getElem?_getD,e,hx]
 have L:=hA.len (K.getD x 0).toNat (by omega)
 refine ⟨by rw [row,bU,List.length_map,L],fun y hy=>?_⟩
 have r:=hA.rng (K.getD x 0).toNat y (by omega) hy
 have v:=(ht.2 x hx).2 (en A (K.getD x 0).toNat y).toNat (by omega)
 have:en (bX t A K) x y=en t x (en A (K.getD x 0).toNat y).toNat:=by
  unfold en at *;rw [row,bU,qR _ _ 0 0 _ (by omega)]
 rw [this];exact v
end Go.Sx
end
