/- Draw DrawT GrowP DrawR DrawY -/
import Derived.Test.YtkmldclpaniclaaGreatTable
import Derived.Test.YtkmldclpaniclaaGreatOwn2
import Derived.Test.YtkmldclpaniclaaGreatMapQ
import Derived.Test.YtkmldclpaniclaaGreatCmp
set_option linter.unusedSimpArgs false
set_option linter.unusedVariables false
set_option linter.defProp false
section
open Go Go.Proofs
namespace Go.Sx
def bz(η:D6):Prop:=∀x∈η,0<=x/\x<=255
def NM{η:D6}(h:bz η)(i:Nat):0<=η.getD i 0/\η.getD i 0<=255:=by
 by_cases hi:i<η.length
 ·rw[bM η 0 i hi];exact h _ (A5 hi)
 ·rw[AM,BM (by omega)];decide
def kM(h:Int):Int:=IntKind.wrap .u64 (IntKind.wrap .u64 (h*6364136223846793005)+1442695040888963407)
def aK(h n:Int):Int:=if n<1 then h else kM h
def aC(L:Nat)(a n:Int):Int:=if n<1 then a else if a<(L:Int)then a+1 else a
def oP(h:Int):Int:=(((kM h / 2 ^ 33).toNat &&& 16777215:Nat):Int)
def az(η:D6)(a h n:Int):Int:=if n<1 then 0 else if a<(η.length:Int)then(oP h+η.getD a.toNat 0).tmod n else(oP h).tmod n
def X2(x:Int):0<=IntKind.wrap .u64 x/\IntKind.wrap .u64 x<=18446744073709551615:=by
 have:IntKind.wrap .u64 x=x % 18446744073709551616:=rfl
 omega
def tmod_in'{a m:Int}(h:0<=a)(hm:1<=m):0<=a.tmod m/\a.tmod m<=m-1:=by
 rw[Dv h];have h1:=Int.emod_nonneg a (show m≠0 by omega)
 have h2:=Int.emod_lt_of_pos a (show 0<m by omega)
 omega
def bD(η:D6)(a h:Int):Nat->D6×Int×Int
 |0=>([],a,h)
 |i+1=>let s:=bD η a h i
  let k:=(az η s.2.1 s.2.2 ((i:Int)+1)).toNat
  (s.1.take k++((i:Int)::s.1.drop k),aC η.length s.2.1 ((i:Int)+1),aK s.2.2 ((i:Int)+1))
def NN(h:Int):0<=oP h/\oP h<=16777215:=by
 have:((kM h / 2 ^ 33).toNat &&& 16777215)<=16777215:=Nat.and_le_right
 unfold oP;omega
def lN:List AD->Option Post
 | [.box [.ints .u8 η,.int .i64 a,.int .u64 h],.c (.int .i64 n)]=>some ⟨bz η/\0<=a/\a<=1099511627776,.c (.int .i64 (az η a h n)),[.bx [.ints .u8 η,.int .i64 (aC η.length a n),.int .u64 (aK h n)]]⟩
 |_=>none
def qA(h:Int):=(↑((IntKind.wrap IntKind.u64 (IntKind.wrap IntKind.u64 (h*(6364136223846793005:Int))+(1442695040888963407:Int)) / (2:Int) ^ (33:Int).toNat).toNat &&& (16777215:Int).toNat):Int)
def oQ:Fits Tryz.prog 77 ⟨[(0,0)],lN⟩:=by
 refine ffv (Γ:=ah []) aN Tryz.func77 λds p h ξ=>?_
 unfold lN at h;split at h<;>cases h
 rename_i η a h n
 refine⟨aj,ar,ab (decide (n<(1:Int))) ((0:Int)=az η a h n/\(η=η/\a=aC η.length a n/\h=aK h n/\True)/\True) (((0:Int)<=(33:Int)/\(33:Int)<=(62:Int))/\(((0:Int)<=IntKind.wrap IntKind.u64 (IntKind.wrap IntKind.u64 (h*(6364136223846793005:Int))+(1442695040888963407:Int)) / (2:Int) ^ (33:Int).toNat/\IntKind.wrap IntKind.u64 (IntKind.wrap IntKind.u64 (h*(6364136223846793005:Int))+(1442695040888963407:Int)) / (2:Int) ^ (33:Int).toNat<=(18446744073709551615:Int))/\(0:Int)<=(16777215:Int)/\(16777215:Int)<=(18446744073709551615:Int))/\ae (qA h)/\ab (decide (a<(η.length:Int))) (ac a η.length/\ae (η.getD a.toNat (0:Int))/\ae ((qA h)+η.getD a.toNat (0:Int))/\ae (a+(1:Int))/\n≠(0:Int)/\Int.tmod ((qA h)+η.getD a.toNat (0:Int)) n=az η a h n/\(η=η/\a+(1:Int)=aC η.length a n/\IntKind.wrap IntKind.u64 (IntKind.wrap IntKind.u64 (h*(6364136223846793005:Int))+(1442695040888963407:Int))=aK h n/\True)/\True) (n≠(0:Int)/\Int.tmod (qA h) n=az η a h n/\(η=η/\a=aC η.length a n/\IntKind.wrap IntKind.u64 (IntKind.wrap IntKind.u64 (h*(6364136223846793005:Int))+(1442695040888963407:Int))=aK h n/\True)/\True)),by kernel_rfl,?_⟩
 simp only[qA,aO]at ξ⊢;obtain⟨hb,h0,h1⟩:=ξ;have hr:=NN h
 have hg:=NM hb a.toNat
 have hs:0<=kM h/\kM h<=18446744073709551615:=X2 _
 refine⟨λhn=>⟨(AA hn).symm,(AA hn).symm,(AA hn).symm⟩,λhn=>⟨?_,?_⟩⟩
 ·exact⟨by decide,by decide⟩
 ·have e2:IntKind.u64.wrap (IntKind.u64.wrap (h*6364136223846793005)+1442695040888963407)=kM h:=rfl
  have e:(((kM h / 2 ^ Int.toNat 33).toNat &&& Int.toNat 16777215:Nat):Int)=oP h:=rfl
  rw[e2,e,show kM h / 2 ^ Int.toNat 33=kM h / 8589934592 from rfl]
  refine⟨by omega,by omega,λhl=>⟨by omega,by omega,by omega,by omega,by omega,?_,?_,(AB hn).symm⟩,λhl=>⟨by omega,?_,?_,(AB hn).symm⟩⟩
  ·rw[az,AB hn,AA hl]
  ·rw[aC,AB hn,AA hl]
  ·rw[az,AB hn,AB hl]
  ·rw[aC,AB hn,AB hl]
def cK(η:D6):Nat->Int
 |0=>IntKind.wrap .u64 (6553+IntKind.wrap .u64 (η.length:Int))
 |i+1=>IntKind.wrap .u64 (IntKind.wrap .u64 (IntKind.wrap .u64 (cK η i*1099511628211)+IntKind.wrap .u64 (η.getD i 0))+11)
def uK:List AD->Option Post
 | [.c (.ints .u8 η)]=>some ⟨bz η/\η.length<=4096,.c (.bx [.ints .u8 η,.int .i64 0,.int .u64 (cK η η.length)]),[]⟩
 |_=>none
def NP(η:D6):Nat->Option Ann
 |0=>Q' λi=>⟨⟨[(0,.c (.ro (.ints .u8 η))),(3,M' 10),(4,A' i)],[(10,P' [.ro (.ints .u8 η),.int .i64 0,.int .u64 (cK η i)])]⟩,i<=η.length,η.length-i⟩
 |_=>none
set_option maxRecDepth 100000 in
def NR:Fits Tryz.prog 78 ⟨[],uK⟩:=by
 refine ffv (Γ:=ah []) aN Tryz.func78 λds p h ξ=>?_
 unfold uK at h;split at h<;>cases h
 rename_i η
 refine⟨aj,NP η,(∃x0:Nat,x0<=η.length/\η=η/\(0:Int)=(x0:Int)/\η=η/\(0:Int)=(0:Int)/\IntKind.wrap IntKind.u64 ((6553:Int)+IntKind.wrap IntKind.u64 (η.length:Int))=cK η x0)/\∀x1:Nat,x1<=η.length->ab (decide ((x1:Int)<(η.length:Int))) (ab (decide ((x1:Int)<(4096:Int))) (ac (x1:Int) η.length/\ae ((x1:Int)+(1:Int))/\∃x2:Nat,x2<=η.length/\η.length-x2<η.length-x1/\η=η/\(x1:Int)+(1:Int)=(x2:Int)/\η=η/\(0:Int)=(0:Int)/\IntKind.wrap IntKind.u64 (IntKind.wrap IntKind.u64 (IntKind.wrap IntKind.u64 (cK η x1*(1099511628211:Int))+IntKind.wrap IntKind.u64 (η.getD (x1:Int).toNat (0:Int)))+(11:Int))=cK η x2) (([FC.ints IntKind.u8 η,FC.int IntKind.i64 (0:Int),FC.int IntKind.u64 (cK η η.length)]≠[]/\η=η/\(0:Int)=(0:Int)/\cK η x1=cK η η.length/\True)/\True)) (([FC.ints IntKind.u8 η,FC.int IntKind.i64 (0:Int),FC.int IntKind.u64 (cK η η.length)]≠[]/\η=η/\(0:Int)=(0:Int)/\cK η x1=cK η η.length/\True)/\True),by kernel_rfl,?_⟩
 simp only[aO]at ξ⊢;obtain⟨hb,h0⟩:=ξ;refine⟨⟨0,by omega,rfl,rfl⟩,λi hi=>⟨λh=>⟨λ_=>⟨by omega,by omega,i+1,by omega,by omega,by omega,rfl⟩,λh2=>by omega⟩,λh=>⟨by simp,by rw[show i=η.length by omega]⟩⟩⟩
def gL{η:D6}(hb:bz η)(a h:Int){n:Int}(hn:1<=n):0<=az η a h n/\az η a h n<=n-1:=by
 have hr:=NN h
 have hg:=NM hb a.toNat
 rw[az,AB (by omega)]
 split
 ·exact tmod_in' (by omega) hn
 ·exact tmod_in' (by omega) hn
def dS{L:Nat}{a n:Int}(h:0<=a)(hl:a<=(L:Int)):0<=aC L a n/\aC L a n<=(L:Int):=by
 unfold aC;split
 ·omega
 ·split<;>omega
def uL{η:D6}(hb:bz η){a h:Int}(h0:0<=a)(h1:a<=(η.length:Int)):∀i:Nat,(bD η a h i).1.length=i/\(∀x∈(bD η a h i).1,0<=x/\x<=(i:Int)-1)/\0<=(bD η a h i).2.1/\(bD η a h i).2.1<=(η.length:Int)
 |0=>⟨rfl,λx hx=>(C5 hx).elim,h0,h1⟩
 |i+1=>by
  obtain⟨e1,e2,e3,e4⟩:=uL hb (h:=h) h0 h1 i;have v:=gL hb (bD η a h i).2.1 (bD η a h i).2.2 (n:=(i:Int)+1) (by omega)
  have w:=dS (n:=(i:Int)+1) e3 e4
  refine⟨?_,λx hx=>?_,w.1,w.2⟩
  ·show((bD η a h i).1.take _++((i:Int)::(bD η a h i).1.drop _)).length=i+1
   rw[Ag,AR,AP,BD,e1];omega
  ·have hx:x∈(bD η a h i).1.take (az η (bD η a h i).2.1 (bD η a h i).2.2 ((i:Int)+1)).toNat++((i:Int)::(bD η a h i).1.drop (az η (bD η a h i).2.1 (bD η a h i).2.2 ((i:Int)+1)).toNat):=hx
   rcases AH.1 hx with hx|hx
   ·have:=e2 x (CP hx);omega
   ·rcases AG.1 hx with rfl|hx
    ·omega
    ·have:=e2 x (List.mem_of_mem_drop hx);omega
def uN:List AD->Option Post
 | [.box [.ints .u8 η,.int .i64 a,.int .u64 h],.c (.int .i64 n)]=>some ⟨bz η/\0<=a/\a<=(η.length:Int)/\η.length<=4096/\0<=n/\n<=144,.c (.ints 2 .i64 (bD η a h n.toNat).1),[.bx [.ints .u8 η,.int .i64 ((bD η a h n.toNat).2.1),.int .u64 ((bD η a h n.toNat).2.2)]]⟩
 |_=>none
def NS(η:D6)(a:Int)(h:Int)(n:Int):Nat->Option Ann
 |0=>Q' λi=>⟨⟨[(0,M' 700),(1,A' n),(5,J' 9),(6,A' i)],[(700,P' [.orig 700 0 (.ints .u8 η),.int .i64 ((bD η a h i).2.1),.int .u64 ((bD η a h i).2.2)]),(9,O' ((bD η a h i).1))]⟩,(i:Int)<=n,n.toNat-i⟩
 |_=>none
def iK(η:D6)(a:Int)(h:Int)(x0:Nat):=(az η (((bD η a h x0).2).1) (((bD η a h x0).2).2) ((↑x0:Int)+(1:Int)))
def NU:Fits Tryz.prog 183 ⟨[(0,0)],uN⟩:=by
 refine ffv (Γ:=ah [(77,⟨[(0,0)],lN⟩)]) (aq oQ aN) Tryz.func183 λds p h ξ=>?_
 unfold uN at h;split at h<;>cases h
 rename_i η a h n
 refine⟨aj,NS η a h n,(∃x0:Nat,(x0:Int)<=n/\n=n/\(0:Int)=(x0:Int)/\η=η/\a=((bD η a h x0).2).1/\h=((bD η a h x0).2).2/\[]=(bD η a h x0).1)/\∀x1:Nat,(x1:Int)<=n->ab (decide ((x1:Int)<n)) (ae ((x1:Int)+(1:Int))/\((bz η/\(0:Int)<=((bD η a h x1).2).1/\((bD η a h x1).2).1<=(1099511627776:Int))/\η=η/\True)/\bS (((bD η a h x1).1).length) (Option.some (iK η a h x1)) Option.none/\au ([(x1:Int)].length+(List.take (((bD η a h x1).1).length-(iK η a h x1).toNat) (List.drop (iK η a h x1).toNat (bD η a h x1).1)).length)/\bS (((bD η a h x1).1).length) Option.none (Option.some (iK η a h x1))/\au (([]:D6).length+(List.take (iK η a h x1).toNat (bD η a h x1).1).length)/\au (([]++List.take (iK η a h x1).toNat (bD η a h x1).1).length+([(x1:Int)]++List.take (((bD η a h x1).1).length-(iK η a h x1).toNat) (List.drop (iK η a h x1).toNat (bD η a h x1).1)).length)/\ae ((x1:Int)+(1:Int))/\∃x2:Nat,(x2:Int)<=n/\n.toNat-x2<n.toNat-x1/\n=n/\(x1:Int)+(1:Int)=(x2:Int)/\η=η/\aC η.length (((bD η a h x1).2).1) ((x1:Int)+(1:Int))=((bD η a h x2).2).1/\aK (((bD η a h x1).2).2) ((x1:Int)+(1:Int))=((bD η a h x2).2).2/\[]++List.take (iK η a h x1).toNat (bD η a h x1).1++([(x1:Int)]++List.take (((bD η a h x1).1).length-(iK η a h x1).toNat) (List.drop (iK η a h x1).toNat (bD η a h x1).1))=(bD η a h x2).1) ((bD η a h x1).1=(bD η a h n.toNat).1/\(η=η/\((bD η a h x1).2).1=((bD η a h n.toNat).2).1/\((bD η a h x1).2).2=((bD η a h n.toNat).2).2/\True)/\True),by kernel_rfl,?_⟩
 simp only[iK,aO]at ξ⊢;obtain⟨hb,h0,h1,h2,h3,h4⟩:=ξ;refine⟨⟨0,by omega,rfl,rfl,rfl,rfl⟩,λi hi=>⟨fun ψ=>?_,λhge=>?_⟩⟩
 ·obtain⟨e1,e2,e3,e4⟩:=uL hb (h:=h) h0 h1 i
  have v:=gL hb (bD η a h i).2.1 (bD η a h i).2.2 (n:=(i:Int)+1) (by omega)
  refine⟨by omega,⟨hb,e3,by omega⟩,by omega,by omega,by omega,by omega,by omega,by omega,i+1,by omega,by omega,by omega,rfl,rfl,?_⟩
  rw[show ∀k,List.take ((bD η a h i).1.length-k) (List.drop k (bD η a h i).1)=List.drop k (bD η a h i).1 from λk=>AU (by simp)]
  rfl
 ·rw[show i=n.toNat by omega];exact⟨rfl,rfl,rfl⟩
end Go.Sx
end
section
open Go Go.Proofs
namespace Go.Sx
def gp(n:Int)(t:D7):Prop:=(t.length:Int)=n/\∀i,i<t.length->((t.getD i []).length:Int)=n/\∀j,j<t.length->0<=(t.getD i []).getD j 0/\(t.getD i []).getD j 0<=n-1
def dJ(t:D7)(p:D6)(x:Nat):Nat->D7->D7
 |0,o=>o
 |y+1,o=>let o':=dJ t p x y o
  o'.set (p.getD x 0).toNat ((o'.getD (p.getD x 0).toNat []).set (p.getD y 0).toNat (p.getD ((t.getD x []).getD y 0).toNat 0))
def bt(t:D7)(p:D6):Nat->D7
 |0=>t
 |x+1=>dJ t p x t.length (bt t p x)
def X9{n:Int}{o:D7}(h:gp n o){k j:Nat}(hk:(k:Int)<n)(hj:(j:Int)<n){v:Int}(h0:0<=v)(h1:v<=n-1):gp n (o.set k ((o.getD k []).set j v)):=by
 refine⟨by rw[Aj];exact h.1,λi hi=>?_⟩
 rw[Aj]at hi;have e:=h.2 i hi
 by_cases hik:k=i
 ·subst hik
  have:(o.set k ((o.getD k []).set j v)).getD k []=(o.getD k []).set j v:=by
   rw[AM,Ba hi];rfl
  rw[this,Aj,Aj];refine⟨e.1,λx hx=>?_⟩
  by_cases hxj:j=x
  ·subst hxj
   have:((o.getD k []).set j v).getD j 0=v:=by
    rw[AM,Ba (by omega)];rfl
   rw[this];exact⟨h0,h1⟩
  ·have:((o.getD k []).set j v).getD x 0=(o.getD k []).getD x 0:=by
    rw[AM,A6 hxj,<-AM]
   rw[this];exact e.2 x hx
 ·have:(o.set k ((o.getD k []).set j v)).getD i []=o.getD i []:=by
   rw[AM,A6 hik,<-AM]
  rw[this,Aj];exact e
section
variable {t:D7} {p:D6} (ht:gp (t.length:Int) t) (hp:p.length=t.length) (hq:∀i,i<p.length->0<=p.getD i 0/\p.getD i 0<=(t.length:Int)-1)
include ht hp hq
def FH(x:Nat)(hx:x<t.length):∀(y:Nat),y<=t.length->∀o,gp (t.length:Int) o->gp (t.length:Int) (dJ t p x y o)
 |0,_,o,h=>h
 |y+1,hy,o,h=>by
  have e:=FH x hx y (by omega) o h
  have q1:=hq x (by omega)
  have q2:=hq y (by omega)
  have t1:=(ht.2 x hx).2 y (by omega)
  have q3:=hq ((t.getD x []).getD y 0).toNat (by omega)
  exact X9 e (by omega) (by omega) q3.1 q3.2
def FI:∀(x:Nat),x<=t.length->gp (t.length:Int) (bt t p x)
 |0,_=>ht
 |x+1,hx=>FH ht hp hq x (by omega) _ (AE _) _ (FI x (by omega))
end
def qB:List AD->Option Post
 | [.c (.rows .i64 t),.c (.ints .i64 p)]=>some ⟨aJ t/\t.length<=144/\gp (t.length:Int) t/\p.length=t.length/\(∀i,i<p.length->0<=p.getD i 0/\p.getD i 0<=(t.length:Int)-1),.c (.rows 62 2 .i64 (bt t p t.length)),[]⟩
 |_=>none
def NV(t:D7)(p:D6):Nat->Option Ann
 |0=>T' (λi=>⟨⟨[(0,G' t),(1,D' p),(5,J' 9),(6,A' i)],[(9,N' (bt t p i))]⟩,i<=t.length,t.length-i⟩) (λi b_=>match b_ with|2=>Q' λj=>⟨⟨[(0,G' t),(1,D' p),(5,J' 9),(6,A' i),(7,A' j)],[(9,N' (dJ t p i j (bt t p i)))]⟩,j<=t.length/\i<t.length,t.length-j⟩|_=>none)
 |_=>none
def FK:Fits Tryz.prog 143 ⟨[],qB⟩:=by
 refine ffv (Γ:=ah [(96,⟨[],ry⟩)]) (aq HN aN) Tryz.func143 λds p h ξ=>?_
 unfold qB at h;split at h<;>cases h
 rename_i t p
 refine⟨aj,NV t p,(aJ t/\True)/\(∃x0:Nat,x0<=t.length/\t=t/\p=p/\(0:Int)=(x0:Int)/\t=bt t p x0)/\∀x1:Nat,x1<=t.length->ab (decide ((x1:Int)<(t.length:Int))) ((∃x2:Nat,(x2<=t.length/\x1<t.length)/\t=t/\p=p/\(x1:Int)=(x1:Int)/\(0:Int)=(x2:Int)/\bt t p x1=dJ t p x1 x2 (bt t p x1))/\∀x3:Nat,x3<=t.length/\x1<t.length->ab (decide ((x3:Int)<(t.length:Int))) (ac (x1:Int) p.length/\ac (p.getD (x1:Int).toNat (0:Int)) ((dJ t p x1 x3 (bt t p x1)).length)/\ac (x3:Int) p.length/\ac (x1:Int) t.length/\ac (x3:Int) ((t.getD (x1:Int).toNat []).length)/\ac ((List.getD t (x1:Int).toNat []).getD (x3:Int).toNat (0:Int)) p.length/\ac (p.getD (x3:Int).toNat (0:Int)) (((dJ t p x1 x3 (bt t p x1)).getD ((p.getD (x1:Int).toNat (0:Int)).toNat) []).length)/\ae ((x3:Int)+(1:Int))/\∃x4:Nat,(x4<=t.length/\x1<t.length)/\t.length-x4<t.length-x3/\t=t/\p=p/\(x1:Int)=(x1:Int)/\(x3:Int)+(1:Int)=(x4:Int)/\List.set (dJ t p x1 x3 (bt t p x1)) ((p.getD (x1:Int).toNat (0:Int)).toNat) (List.set ((dJ t p x1 x3 (bt t p x1)).getD ((p.getD (x1:Int).toNat (0:Int)).toNat) []) ((p.getD (x3:Int).toNat (0:Int)).toNat) (p.getD (((List.getD t (x1:Int).toNat []).getD (x3:Int).toNat (0:Int)).toNat) (0:Int)))=dJ t p x1 x4 (bt t p x1)) (ae ((x1:Int)+(1:Int))/\∃x5:Nat,x5<=t.length/\t.length-x5<t.length-x1/\t=t/\p=p/\(x1:Int)+(1:Int)=(x5:Int)/\dJ t p x1 x3 (bt t p x1)=bt t p x5)) (bt t p x1=bt t p t.length/\True),by kernel_rfl,?_⟩
 simp only[aO]at ξ⊢;obtain⟨r0,h0,h1,h2,h3⟩:=ξ;have q:=λx (hx:x<t.length)=>h3 x (by omega)
 have I:=FI h1 (by omega) h3
 refine⟨r0,⟨0,by omega,rfl,rfl⟩,λi hi=>⟨λh=>⟨⟨0,⟨by omega,by omega⟩,rfl,rfl⟩,λj ⟨hj,_⟩=>⟨λh4=>?_,λh4=>?_⟩⟩,λh=>by rw[show i=t.length by omega]⟩⟩
 ·have C:=FH h1 (by omega) h3 i (by omega) j (by omega) _ (I i (by omega))
  have q1:=q i (by omega)
  have q2:=q j (by omega)
  have t1:=h1.2 i (by omega)
  have t2:=t1.2 j (by omega)
  have c1:=C.1
  have c2:=(C.2 (p.getD i 0).toNat (by omega)).1
  exact⟨by omega,by omega,by omega,by omega,by omega,by omega,by omega,by omega,j+1,by omega,by omega,by omega,rfl⟩
 ·exact⟨by omega,i+1,by omega,by omega,by omega,by rw[show j=t.length by omega];rfl⟩
end Go.Sx
end
section
open Go Go.Proofs
namespace Go.Sx
def fK(p:D6):Nat->D6
 |0=>List.replicate p.length 0
 |i+1=>(fK p i).set (p.getD i 0).toNat (i:Int)
def cG(p:D6):D6:=fK p p.length
def aR(p q:D6):D6:=p.map λx=>q.getD x.toNat 0
def oR(p:D6):∀i,(fK p i).length=p.length
 |0=>by simp[fK]
 |i+1=>by rw[fK,Aj,oR p i]
def gN(n:Nat)(p:D6):Prop:=∀i,i<p.length->0<=p.getD i 0/\p.getD i 0<(n:Int)
def qC:List AD->Option Post
 | [.c (.ints .i64 p),.c (.ints .i64 q)]=>some ⟨au p.length/\gN q.length p,.c (.ints 2 .i64 (aR p q)),[]⟩
 |_=>none
def NX(p:D6)(q:D6):Nat->Option Ann
 |0=>Q' λi=>⟨⟨[(0,D' p),(1,D' q),(5,J' 10),(6,A' i)],[(10,O' (aR (p.take i) q))]⟩,i<=p.length,p.length-i⟩
 |_=>none
def FM:Fits Tryz.prog 189 ⟨[],qC⟩:=by
 refine ffv (Γ:=ah []) aN Tryz.func189 λds p h ξ=>?_
 unfold qC at h;split at h<;>cases h
 rename_i p q
 refine⟨aj,NX p q,(∃x0:Nat,x0<=p.length/\p=p/\q=q/\(0:Int)=(x0:Int)/\[]=aR (List.take x0 p) q)/\∀x1:Nat,x1<=p.length->ab (decide ((x1:Int)<(p.length:Int))) (ac (x1:Int) p.length/\ac (p.getD (x1:Int).toNat (0:Int)) q.length/\au ((aR (List.take x1 p) q).length+[q.getD ((p.getD (x1:Int).toNat (0:Int)).toNat) (0:Int)].length)/\ae ((x1:Int)+(1:Int))/\∃x2:Nat,x2<=p.length/\p.length-x2<p.length-x1/\p=p/\q=q/\(x1:Int)+(1:Int)=(x2:Int)/\aR (List.take x1 p) q++[q.getD ((p.getD (x1:Int).toNat (0:Int)).toNat) (0:Int)]=aR (List.take x2 p) q) (aR (List.take x1 p) q=aR p q/\True),by kernel_rfl,?_⟩
 simp only[aO]at ξ⊢;obtain⟨h1,h2⟩:=ξ;refine⟨⟨0,by omega,rfl,rfl⟩,λi hi=>⟨λh=>?_,λh=>?_⟩⟩
 ·have hr:=h2 i (by omega)
  have hl:(aR (p.take i) q).length=i:=by rw[aR,AW,AP];omega
  refine⟨by omega,by omega,by omega,by omega,i+1,by omega,by omega,by omega,?_⟩
  rw[<-dZ p 0 i (by omega),aR,aR,Be];rfl
 ·rw[AU (by omega)]
end Go.Sx
end
section
open Go Go.Proofs
namespace Go.Sx
abbrev Dr:=D7×Int×Int
def NZ(z:D6):D7->Nat
 | []=>0
 |a::r=>if a=z then 0 else NZ z r+1
def N0(A:D7)(x y:Nat):D6:=aR (aR (cG (A.getD x [])) (A.getD y [])) (A.getD x [])
structure CjOk (A:D7):Prop where
 le:A.length<=6
 ge:1<=A.length
 len:∀x,x<A.length->(A.getD x []).length=3
 el:∀x,x<A.length->gN 3 (A.getD x [])
 at_:∀x y,x<A.length->y<A.length->NZ (N0 A x y) A<A.length
 th:∀x y,x<A.length->y<A.length->(aR (cG (A.getD x [])) (A.getD y [])).length=3/\gN 3 (aR (cG (A.getD x [])) (A.getD y []))
 bk:∀x,x<A.length->(cG (A.getD x [])).length=3/\gN 3 (cG (A.getD x []))
 z:∀x y,x<A.length->y<A.length->(N0 A x y).length=3
end Go.Sx
end
section
open Go Go.Proofs
namespace Go.Sx
def Ye{η:D6}(hb:bz η){a h:Int}(h0:0<=a)(h1:a<=(η.length:Int))(n:Nat):(bD η a h n).1.length=n/\∀i,i<(bD η a h n).1.length->0<=(bD η a h n).1.getD i 0/\(bD η a h n).1.getD i 0<=(n:Int)-1:=by
 have D:=uL hb (h:=h) h0 h1 n
 refine⟨D.1,λi hi=>?_⟩
 have:=D.2.1 _ (A5 hi)
 rwa[<-bM _ 0 i hi]at this
def oS{n:Int}{t:D7}(h:gp n t)(h1:n<=144):aJ t:=by
 have e:=h.1
 refine⟨by omega,λr hr=>?_⟩
 obtain⟨i,hi,rfl⟩:=BS.1 hr;have:=(h.2 i hi).1
 rw[bM t [] i hi]at this;omega
end Go.Sx
end
