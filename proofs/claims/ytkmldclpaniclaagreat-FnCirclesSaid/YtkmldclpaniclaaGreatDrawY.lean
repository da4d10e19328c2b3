/- Draw DrawT GrowP DrawR DrawY -/
import Derived.Test.YtkmldclpaniclaaGreatTable
import Derived.Test.YtkmldclpaniclaaGreatOwn2
import Derived.Test.YtkmldclpaniclaaGreatMapQ
import Derived.Test.YtkmldclpaniclaaGreatCmp
set_option linter.unusedSimpArgs false
set_option linter.unusedVariables false
set_option linter.defProp false
section
open Go Go.Proofs
namespace Go.Sx
def cO(η:D1):Prop:=∀x∈η,0<=x/\x<=255
theorem KD{η:D1}(h:cO η)(i:Nat):0<=η.getD i 0/\η.getD i 0<=255:=by
 by_cases hi:i<η.length
 ·rw[bv η 0 i hi];exact h _ (A7 hi)
 ·rw[AP,BQ (by omega)];decide
def jZ(h:Int):Int:=IntKind.wrap .u64 (IntKind.wrap .u64 (h*6364136223846793005)+1442695040888963407)
def bU(h n:Int):Int:=if n<1 then h else jZ h
def bu(L:Nat)(a n:Int):Int:=if n<1 then a else if a<(L:Int)then a+1 else a
def nO(h:Int):Int:=(((jZ h / 2 ^ 33).toNat &&& 16777215:Nat):Int)
def bz(η:D1)(a h n:Int):Int:=if n<1 then 0 else if a<(η.length:Int)then(nO h+η.getD a.toNat 0).tmod n else(nO h).tmod n
theorem T0(x:Int):0<=IntKind.wrap .u64 x/\IntKind.wrap .u64 x<=18446744073709551615:=by
 have:IntKind.wrap .u64 x=x % 18446744073709551616:=rfl
 omega
theorem tmod_in'{a m:Int}(h:0<=a)(hm:1<=m):0<=a.tmod m/\a.tmod m<=m-1:=by
 rw[Ds h];have h1:=Int.emod_nonneg a (show m≠0 by omega)
 have h2:=Int.emod_lt_of_pos a (show 0<m by omega)
 omega
def bo(η:D1)(a h:Int):Nat->D1×Int×Int
 |0=>([],a,h)
 |i+1=>let s:=bo η a h i
  let k:=(bz η s.2.1 s.2.2 ((i:Int)+1)).toNat
  (s.1.take k++((i:Int)::s.1.drop k),bu η.length s.2.1 ((i:Int)+1),bU s.2.2 ((i:Int)+1))
theorem KF(h:Int):0<=nO h/\nO h<=16777215:=by
 have:((jZ h / 2 ^ 33).toNat &&& 16777215)<=16777215:=Nat.and_le_right
 unfold nO;omega
def pC:List AD->Option Post
 | [.box [.ints .u8 η,.int .i64 a,.int .u64 h],.c (.int .i64 n)]=>some ⟨cO η/\0<=a/\a<=1099511627776,.c (.int .i64 (bz η a h n)),[.bx [.ints .u8 η,.int .i64 (bu η.length a n),.int .u64 (bU h n)]]⟩
 |_=>none
def pD(h:Int):=(↑((IntKind.wrap IntKind.u64 (IntKind.wrap IntKind.u64 (h*(6364136223846793005:Int))+(1442695040888963407:Int)) / (2:Int) ^ (33:Int).toNat).toNat &&& (16777215:Int).toNat):Int)
theorem zn:Fits Tryz.prog 77 ⟨[(0,0)],pC⟩:=by
 refine ffv (Γ:=ah []) aI Tryz.func77 fun ds p h ξ=>?_
 unfold pC at h;split at h<;>cases h
 rename_i η a h n
 refine⟨aj,ar,ab (decide (n<(1:Int))) ((0:Int)=bz η a h n/\(η=η/\a=bu η.length a n/\h=bU h n/\True)/\True) (((0:Int)<=(33:Int)/\(33:Int)<=(62:Int))/\(((0:Int)<=IntKind.wrap IntKind.u64 (IntKind.wrap IntKind.u64 (h*(6364136223846793005:Int))+(1442695040888963407:Int)) / (2:Int) ^ (33:Int).toNat/\IntKind.wrap IntKind.u64 (IntKind.wrap IntKind.u64 (h*(6364136223846793005:Int))+(1442695040888963407:Int)) / (2:Int) ^ (33:Int).toNat<=(18446744073709551615:Int))/\(0:Int)<=(16777215:Int)/\(16777215:Int)<=(18446744073709551615:Int))/\af (pD h)/\ab (decide (a<(η.length:Int))) (ac a η.length/\af (η.getD a.toNat (0:Int))/\af ((pD h)+η.getD a.toNat (0:Int))/\af (a+(1:Int))/\n≠(0:Int)/\Int.tmod ((pD h)+η.getD a.toNat (0:Int)) n=bz η a h n/\(η=η/\a+(1:Int)=bu η.length a n/\IntKind.wrap IntKind.u64 (IntKind.wrap IntKind.u64 (h*(6364136223846793005:Int))+(1442695040888963407:Int))=bU h n/\True)/\True) (n≠(0:Int)/\Int.tmod (pD h) n=bz η a h n/\(η=η/\a=bu η.length a n/\IntKind.wrap IntKind.u64 (IntKind.wrap IntKind.u64 (h*(6364136223846793005:Int))+(1442695040888963407:Int))=bU h n/\True)/\True)),by kernel_rfl,?_⟩
 simp only[pD,aJ]at ξ⊢;obtain⟨hb,h0,h1⟩:=ξ;have hr:=KF h
 have hg:=KD hb a.toNat
 have hs:0<=jZ h/\jZ h<=18446744073709551615:=T0 _
 refine⟨fun hn=>⟨(AA hn).symm,(AA hn).symm,(AA hn).symm⟩,fun hn=>⟨?_,?_⟩⟩
 ·exact⟨by decide,by decide⟩
 ·have e2:IntKind.u64.wrap (IntKind.u64.wrap (h*6364136223846793005)+1442695040888963407)=jZ h:=rfl
  have e:(((jZ h / 2 ^ Int.toNat 33).toNat &&& Int.toNat 16777215:Nat):Int)=nO h:=rfl
  rw[e2,e,show jZ h / 2 ^ Int.toNat 33=jZ h / 8589934592 from rfl]
  refine⟨by omega,by omega,fun hl=>⟨by omega,by omega,by omega,by omega,by omega,?_,?_,(AB hn).symm⟩,fun hl=>⟨by omega,?_,?_,(AB hn).symm⟩⟩
  ·rw[bz,AB hn,AA hl]
  ·rw[bu,AB hn,AA hl]
  ·rw[bz,AB hn,AB hl]
  ·rw[bu,AB hn,AB hl]
def gu(η:D1):Nat->Int
 |0=>IntKind.wrap .u64 (6553+IntKind.wrap .u64 (η.length:Int))
 |i+1=>IntKind.wrap .u64 (IntKind.wrap .u64 (IntKind.wrap .u64 (gu η i*1099511628211)+IntKind.wrap .u64 (η.getD i 0))+11)
def zo:List AD->Option Post
 | [.c (.ints .u8 η)]=>some ⟨cO η/\η.length<=4096,.c (.bx [.ints .u8 η,.int .i64 0,.int .u64 (gu η η.length)]),[]⟩
 |_=>none
def KH(η:D1):Nat->Option Ann
 |0=>Q' fun i=>⟨⟨[(0,.c (.ro (.ints .u8 η))),(3,M' 10),(4,A' i)],[(10,P' [.ro (.ints .u8 η),.int .i64 0,.int .u64 (gu η i)])]⟩,i<=η.length,η.length-i⟩
 |_=>none
set_option maxRecDepth 100000 in
theorem T5:Fits Tryz.prog 78 ⟨[],zo⟩:=by
 refine ffv (Γ:=ah []) aI Tryz.func78 fun ds p h ξ=>?_
 unfold zo at h;split at h<;>cases h
 rename_i η
 refine⟨aj,KH η,(∃x0:Nat,x0<=η.length/\η=η/\(0:Int)=(x0:Int)/\η=η/\(0:Int)=(0:Int)/\IntKind.wrap IntKind.u64 ((6553:Int)+IntKind.wrap IntKind.u64 (η.length:Int))=gu η x0)/\∀x1:Nat,x1<=η.length->ab (decide ((x1:Int)<(η.length:Int))) (ab (decide ((x1:Int)<(4096:Int))) (ac (x1:Int) η.length/\af ((x1:Int)+(1:Int))/\∃x2:Nat,x2<=η.length/\η.length-x2<η.length-x1/\η=η/\(x1:Int)+(1:Int)=(x2:Int)/\η=η/\(0:Int)=(0:Int)/\IntKind.wrap IntKind.u64 (IntKind.wrap IntKind.u64 (IntKind.wrap IntKind.u64 (gu η x1*(1099511628211:Int))+IntKind.wrap IntKind.u64 (η.getD (x1:Int).toNat (0:Int)))+(11:Int))=gu η x2) (([FC.ints IntKind.u8 η,FC.int IntKind.i64 (0:Int),FC.int IntKind.u64 (gu η η.length)]≠[]/\η=η/\(0:Int)=(0:Int)/\gu η x1=gu η η.length/\True)/\True)) (([FC.ints IntKind.u8 η,FC.int IntKind.i64 (0:Int),FC.int IntKind.u64 (gu η η.length)]≠[]/\η=η/\(0:Int)=(0:Int)/\gu η x1=gu η η.length/\True)/\True),by kernel_rfl,?_⟩
 simp only[aJ]at ξ⊢;obtain⟨hb,h0⟩:=ξ;refine⟨⟨0,by omega,rfl,rfl⟩,fun i hi=>⟨fun h=>⟨fun _=>⟨by omega,by omega,i+1,by omega,by omega,by omega,rfl⟩,fun h2=>by omega⟩,fun h=>⟨by simp,by rw[show i=η.length by omega]⟩⟩⟩
theorem mh{η:D1}(hb:cO η)(a h:Int){n:Int}(hn:1<=n):0<=bz η a h n/\bz η a h n<=n-1:=by
 have hr:=KF h
 have hg:=KD hb a.toNat
 rw[bz,AB (by omega)]
 split
 ·exact tmod_in' (by omega) hn
 ·exact tmod_in' (by omega) hn
theorem il{L:Nat}{a n:Int}(h:0<=a)(hl:a<=(L:Int)):0<=bu L a n/\bu L a n<=(L:Int):=by
 unfold bu;split
 ·omega
 ·split<;>omega
theorem pE{η:D1}(hb:cO η){a h:Int}(h0:0<=a)(h1:a<=(η.length:Int)):∀i:Nat,(bo η a h i).1.length=i/\(∀x∈(bo η a h i).1,0<=x/\x<=(i:Int)-1)/\0<=(bo η a h i).2.1/\(bo η a h i).2.1<=(η.length:Int)
 |0=>⟨rfl,fun x hx=>(Cu hx).elim,h0,h1⟩
 |i+1=>by
  obtain⟨e1,e2,e3,e4⟩:=pE hb (h:=h) h0 h1 i;have v:=mh hb (bo η a h i).2.1 (bo η a h i).2.2 (n:=(i:Int)+1) (by omega)
  have w:=il (n:=(i:Int)+1) e3 e4
  refine⟨?_,fun x hx=>?_,w.1,w.2⟩
  ·show((bo η a h i).1.take _++((i:Int)::(bo η a h i).1.drop _)).length=i+1
   rw[Ag,AS,AT,BG,e1];omega
  ·have hx:x∈(bo η a h i).1.take (bz η (bo η a h i).2.1 (bo η a h i).2.2 ((i:Int)+1)).toNat++((i:Int)::(bo η a h i).1.drop (bz η (bo η a h i).2.1 (bo η a h i).2.2 ((i:Int)+1)).toNat):=hx
   rcases AI.1 hx with hx|hx
   ·have:=e2 x (Bv hx);omega
   ·rcases AG.1 hx with rfl|hx
    ·omega
    ·have:=e2 x (List.mem_of_mem_drop hx);omega
def sO:List AD->Option Post
 | [.box [.ints .u8 η,.int .i64 a,.int .u64 h],.c (.int .i64 n)]=>some ⟨cO η/\0<=a/\a<=(η.length:Int)/\η.length<=4096/\0<=n/\n<=144,.c (.ints 2 .i64 (bo η a h n.toNat).1),[.bx [.ints .u8 η,.int .i64 ((bo η a h n.toNat).2.1),.int .u64 ((bo η a h n.toNat).2.2)]]⟩
 |_=>none
def KJ(η:D1)(a:Int)(h:Int)(n:Int):Nat->Option Ann
 |0=>Q' fun i=>⟨⟨[(0,M' 700),(1,A' n),(5,J' 9),(6,A' i)],[(700,P' [.orig 700 0 (.ints .u8 η),.int .i64 ((bo η a h i).2.1),.int .u64 ((bo η a h i).2.2)]),(9,O' ((bo η a h i).1))]⟩,(i:Int)<=n,n.toNat-i⟩
 |_=>none
def io(η:D1)(a:Int)(h:Int)(x0:Nat):=(bz η (((bo η a h x0).2).1) (((bo η a h x0).2).2) ((↑x0:Int)+(1:Int)))
theorem KM:Fits Tryz.prog 183 ⟨[(0,0)],sO⟩:=by
 refine ffv (Γ:=ah [(77,⟨[(0,0)],pC⟩)]) (aw zn aI) Tryz.func183 fun ds p h ξ=>?_
 unfold sO at h;split at h<;>cases h
 rename_i η a h n
 refine⟨aj,KJ η a h n,(∃x0:Nat,(x0:Int)<=n/\n=n/\(0:Int)=(x0:Int)/\η=η/\a=((bo η a h x0).2).1/\h=((bo η a h x0).2).2/\[]=(bo η a h x0).1)/\∀x1:Nat,(x1:Int)<=n->ab (decide ((x1:Int)<n)) (af ((x1:Int)+(1:Int))/\((cO η/\(0:Int)<=((bo η a h x1).2).1/\((bo η a h x1).2).1<=(1099511627776:Int))/\η=η/\True)/\bM (((bo η a h x1).1).length) (Option.some (io η a h x1)) Option.none/\am ([(x1:Int)].length+(List.take (((bo η a h x1).1).length-(io η a h x1).toNat) (List.drop (io η a h x1).toNat (bo η a h x1).1)).length)/\bM (((bo η a h x1).1).length) Option.none (Option.some (io η a h x1))/\am (([]:D1).length+(List.take (io η a h x1).toNat (bo η a h x1).1).length)/\am (([]++List.take (io η a h x1).toNat (bo η a h x1).1).length+([(x1:Int)]++List.take (((bo η a h x1).1).length-(io η a h x1).toNat) (List.drop (io η a h x1).toNat (bo η a h x1).1)).length)/\af ((x1:Int)+(1:Int))/\∃x2:Nat,(x2:Int)<=n/\n.toNat-x2<n.toNat-x1/\n=n/\(x1:Int)+(1:Int)=(x2:Int)/\η=η/\bu η.length (((bo η a h x1).2).1) ((x1:Int)+(1:Int))=((bo η a h x2).2).1/\bU (((bo η a h x1).2).2) ((x1:Int)+(1:Int))=((bo η a h x2).2).2/\[]++List.take (io η a h x1).toNat (bo η a h x1).1++([(x1:Int)]++List.take (((bo η a h x1).1).length-(io η a h x1).toNat) (List.drop (io η a h x1).toNat (bo η a h x1).1))=(bo η a h x2).1) ((bo η a h x1).1=(bo η a h n.toNat).1/\(η=η/\((bo η a h x1).2).1=((bo η a h n.toNat).2).1/\((bo η a h x1).2).2=((bo η a h n.toNat).2).2/\True)/\True),by kernel_rfl,?_⟩
 simp only[io,aJ]at ξ⊢;obtain⟨hb,h0,h1,h2,h3,h4⟩:=ξ;refine⟨⟨0,by omega,rfl,rfl,rfl,rfl⟩,fun i hi=>⟨fun ψ=>?_,fun hge=>?_⟩⟩
 ·obtain⟨e1,e2,e3,e4⟩:=pE hb (h:=h) h0 h1 i
  have v:=mh hb (bo η a h i).2.1 (bo η a h i).2.2 (n:=(i:Int)+1) (by omega)
  refine⟨by omega,⟨hb,e3,by omega⟩,by omega,by omega,by omega,by omega,by omega,by omega,i+1,by omega,by omega,by omega,rfl,rfl,?_⟩
  rw[show ∀k,List.take ((bo η a h i).1.length-k) (List.drop k (bo η a h i).1)=List.drop k (bo η a h i).1 from fun k=>AU (by simp)]
  rfl
 ·rw[show i=n.toNat by omega];exact⟨rfl,rfl,rfl⟩
end Go.Sx
end
section
open Go Go.Proofs
namespace Go.Sx
def iQ(n:Int)(t:D2):Prop:=(t.length:Int)=n/\∀i,i<t.length->((t.getD i []).length:Int)=n/\∀j,j<t.length->0<=(t.getD i []).getD j 0/\(t.getD i []).getD j 0<=n-1
def fq(t:D2)(p:D1)(x:Nat):Nat->D2->D2
 |0,o=>o
 |y+1,o=>let o':=fq t p x y o
  o'.set (p.getD x 0).toNat ((o'.getD (p.getD x 0).toNat []).set (p.getD y 0).toNat (p.getD ((t.getD x []).getD y 0).toNat 0))
def bn(t:D2)(p:D1):Nat->D2
 |0=>t
 |x+1=>fq t p x t.length (bn t p x)
theorem T8{n:Int}{o:D2}(h:iQ n o){k j:Nat}(hk:(k:Int)<n)(hj:(j:Int)<n){v:Int}(h0:0<=v)(h1:v<=n-1):iQ n (o.set k ((o.getD k []).set j v)):=by
 refine⟨by rw[Ak];exact h.1,fun i hi=>?_⟩
 rw[Ak]at hi;have e:=h.2 i hi
 by_cases hik:k=i
 ·subst hik
  have:(o.set k ((o.getD k []).set j v)).getD k []=(o.getD k []).set j v:=by
   rw[AP,Bd hi];rfl
  rw[this,Ak,Ak];refine⟨e.1,fun x hx=>?_⟩
  by_cases hxj:j=x
  ·subst hxj
   have:((o.getD k []).set j v).getD j 0=v:=by
    rw[AP,Bd (by omega)];rfl
   rw[this];exact⟨h0,h1⟩
  ·have:((o.getD k []).set j v).getD x 0=(o.getD k []).getD x 0:=by
    rw[AP,A8 hxj,<-AP]
   rw[this];exact e.2 x hx
 ·have:(o.set k ((o.getD k []).set j v)).getD i []=o.getD i []:=by
   rw[AP,A8 hik,<-AP]
  rw[this,Ak];exact e
section
variable {t:D2} {p:D1} (ht:iQ (t.length:Int) t) (hp:p.length=t.length) (hq:∀i,i<p.length->0<=p.getD i 0/\p.getD i 0<=(t.length:Int)-1)
include ht hp hq
theorem zr(x:Nat)(hx:x<t.length):∀(y:Nat),y<=t.length->∀o,iQ (t.length:Int) o->iQ (t.length:Int) (fq t p x y o)
 |0,_,o,h=>h
 |y+1,hy,o,h=>by
  have e:=zr x hx y (by omega) o h
  have q1:=hq x (by omega)
  have q2:=hq y (by omega)
  have t1:=(ht.2 x hx).2 y (by omega)
  have q3:=hq ((t.getD x []).getD y 0).toNat (by omega)
  exact T8 e (by omega) (by omega) q3.1 q3.2
theorem zt:∀(x:Nat),x<=t.length->iQ (t.length:Int) (bn t p x)
 |0,_=>ht
 |x+1,hx=>zr ht hp hq x (by omega) _ (AE _) _ (zt x (by omega))
end
def zu:List AD->Option Post
 | [.c (.rows .i64 t),.c (.ints .i64 p)]=>some ⟨aS t/\t.length<=144/\iQ (t.length:Int) t/\p.length=t.length/\(∀i,i<p.length->0<=p.getD i 0/\p.getD i 0<=(t.length:Int)-1),.c (.rows 62 2 .i64 (bn t p t.length)),[]⟩
 |_=>none
def KN(t:D2)(p:D1):Nat->Option Ann
 |0=>T' (fun i=>⟨⟨[(0,G' t),(1,D' p),(5,J' 9),(6,A' i)],[(9,N' (bn t p i))]⟩,i<=t.length,t.length-i⟩) (fun i b_=>match b_ with|2=>Q' fun j=>⟨⟨[(0,G' t),(1,D' p),(5,J' 9),(6,A' i),(7,A' j)],[(9,N' (fq t p i j (bn t p i)))]⟩,j<=t.length/\i<t.length,t.length-j⟩|_=>none)
 |_=>none
theorem Ub:Fits Tryz.prog 143 ⟨[],zu⟩:=by
 refine ffv (Γ:=ah [(96,⟨[],Fo⟩)]) (aw WE aI) Tryz.func143 fun ds p h ξ=>?_
 unfold zu at h;split at h<;>cases h
 rename_i t p
 refine⟨aj,KN t p,(aS t/\True)/\(∃x0:Nat,x0<=t.length/\t=t/\p=p/\(0:Int)=(x0:Int)/\t=bn t p x0)/\∀x1:Nat,x1<=t.length->ab (decide ((x1:Int)<(t.length:Int))) ((∃x2:Nat,(x2<=t.length/\x1<t.length)/\t=t/\p=p/\(x1:Int)=(x1:Int)/\(0:Int)=(x2:Int)/\bn t p x1=fq t p x1 x2 (bn t p x1))/\∀x3:Nat,x3<=t.length/\x1<t.length->ab (decide ((x3:Int)<(t.length:Int))) (ac (x1:Int) p.length/\ac (p.getD (x1:Int).toNat (0:Int)) ((fq t p x1 x3 (bn t p x1)).length)/\ac (x3:Int) p.length/\ac (x1:Int) t.length/\ac (x3:Int) ((t.getD (x1:Int).toNat []).length)/\ac ((List.getD t (x1:Int).toNat []).getD (x3:Int).toNat (0:Int)) p.length/\ac (p.getD (x3:Int).toNat (0:Int)) (((fq t p x1 x3 (bn t p x1)).getD ((p.getD (x1:Int).toNat (0:Int)).toNat) []).length)/\af ((x3:Int)+(1:Int))/\∃x4:Nat,(x4<=t.length/\x1<t.length)/\t.length-x4<t.length-x3/\t=t/\p=p/\(x1:Int)=(x1:Int)/\(x3:Int)+(1:Int)=(x4:Int)/\List.set (fq t p x1 x3 (bn t p x1)) ((p.getD (x1:Int).toNat (0:Int)).toNat) (List.set ((fq t p x1 x3 (bn t p x1)).getD ((p.getD (x1:Int).toNat (0:Int)).toNat) []) ((p.getD (x3:Int).toNat (0:Int)).toNat) (p.getD (((List.getD t (x1:Int).toNat []).getD (x3:Int).toNat (0:Int)).toNat) (0:Int)))=fq t p x1 x4 (bn t p x1)) (af ((x1:Int)+(1:Int))/\∃x5:Nat,x5<=t.length/\t.length-x5<t.length-x1/\t=t/\p=p/\(x1:Int)+(1:Int)=(x5:Int)/\fq t p x1 x3 (bn t p x1)=bn t p x5)) (bn t p x1=bn t p t.length/\True),by kernel_rfl,?_⟩
 simp only[aJ]at ξ⊢;obtain⟨r0,h0,h1,h2,h3⟩:=ξ;have q:=fun x (hx:x<t.length)=>h3 x (by omega)
 have I:=zt h1 (by omega) h3
 refine⟨r0,⟨0,by omega,rfl,rfl⟩,fun i hi=>⟨fun h=>⟨⟨0,⟨by omega,by omega⟩,rfl,rfl⟩,fun j ⟨hj,_⟩=>⟨fun h4=>?_,fun h4=>?_⟩⟩,fun h=>by rw[show i=t.length by omega]⟩⟩
 ·have C:=zr h1 (by omega) h3 i (by omega) j (by omega) _ (I i (by omega))
  have q1:=q i (by omega)
  have q2:=q j (by omega)
  have t1:=h1.2 i (by omega)
  have t2:=t1.2 j (by omega)
  have c1:=C.1
  have c2:=(C.2 (p.getD i 0).toNat (by omega)).1
  exact⟨by omega,by omega,by omega,by omega,by omega,by omega,by omega,by omega,j+1,by omega,by omega,by omega,rfl⟩
 ·exact⟨by omega,i+1,by omega,by omega,by omega,by rw[show j=t.length by omega];rfl⟩
end Go.Sx
end
section
open Go Go.Proofs
namespace Go.Sx
def ft(p:D1):Nat->D1
 |0=>List.replicate p.length 0
 |i+1=>(ft p i).set (p.getD i 0).toNat (i:Int)
def b6(p:D1):D1:=ft p p.length
def aE(p q:D1):D1:=p.map fun x=>q.getD x.toNat 0
theorem nP(p:D1):∀i,(ft p i).length=p.length
 |0=>by simp[ft]
 |i+1=>by rw[ft,Ak,nP p i]
def gv(n:Nat)(p:D1):Prop:=∀i,i<p.length->0<=p.getD i 0/\p.getD i 0<(n:Int)
def sR:List AD->Option Post
 | [.c (.ints .i64 p),.c (.ints .i64 q)]=>some ⟨am p.length/\gv q.length p,.c (.ints 2 .i64 (aE p q)),[]⟩
 |_=>none
def KP(p:D1)(q:D1):Nat->Option Ann
 |0=>Q' fun i=>⟨⟨[(0,D' p),(1,D' q),(5,J' 10),(6,A' i)],[(10,O' (aE (p.take i) q))]⟩,i<=p.length,p.length-i⟩
 |_=>none
theorem KT:Fits Tryz.prog 189 ⟨[],sR⟩:=by
 refine ffv (Γ:=ah []) aI Tryz.func189 fun ds p h ξ=>?_
 unfold sR at h;split at h<;>cases h
 rename_i p q
 refine⟨aj,KP p q,(∃x0:Nat,x0<=p.length/\p=p/\q=q/\(0:Int)=(x0:Int)/\[]=aE (List.take x0 p) q)/\∀x1:Nat,x1<=p.length->ab (decide ((x1:Int)<(p.length:Int))) (ac (x1:Int) p.length/\ac (p.getD (x1:Int).toNat (0:Int)) q.length/\am ((aE (List.take x1 p) q).length+[q.getD ((p.getD (x1:Int).toNat (0:Int)).toNat) (0:Int)].length)/\af ((x1:Int)+(1:Int))/\∃x2:Nat,x2<=p.length/\p.length-x2<p.length-x1/\p=p/\q=q/\(x1:Int)+(1:Int)=(x2:Int)/\aE (List.take x1 p) q++[q.getD ((p.getD (x1:Int).toNat (0:Int)).toNat) (0:Int)]=aE (List.take x2 p) q) (aE (List.take x1 p) q=aE p q/\True),by kernel_rfl,?_⟩
 simp only[aJ]at ξ⊢;obtain⟨h1,h2⟩:=ξ;refine⟨⟨0,by omega,rfl,rfl⟩,fun i hi=>⟨fun h=>?_,fun h=>?_⟩⟩
 ·have hr:=h2 i (by omega)
  have hl:(aE (p.take i) q).length=i:=by rw[aE,AR,AT];omega
  refine⟨by omega,by omega,by omega,by omega,i+1,by omega,by omega,by omega,?_⟩
  rw[<-dZ p 0 i (by omega),aE,aE,Bf];rfl
 ·rw[AU (by omega)]
end Go.Sx
end
section
open Go Go.Proofs
namespace Go.Sx
abbrev Dr:=D2×Int×Int
def KU(z:D1):D2->Nat
 | []=>0
 |a::r=>if a=z then 0 else KU z r+1
def KW(A:D2)(x y:Nat):D1:=aE (aE (b6 (A.getD x [])) (A.getD y [])) (A.getD x [])
structure CjOk (A:D2):Prop where
 le:A.length<=6
 ge:1<=A.length
 len:∀x,x<A.length->(A.getD x []).length=3
 el:∀x,x<A.length->gv 3 (A.getD x [])
 at_:∀x y,x<A.length->y<A.length->KU (KW A x y) A<A.length
 th:∀x y,x<A.length->y<A.length->(aE (b6 (A.getD x [])) (A.getD y [])).length=3/\gv 3 (aE (b6 (A.getD x [])) (A.getD y []))
 bk:∀x,x<A.length->(b6 (A.getD x [])).length=3/\gv 3 (b6 (A.getD x []))
 z:∀x y,x<A.length->y<A.length->(KW A x y).length=3
end Go.Sx
end
section
open Go Go.Proofs
namespace Go.Sx
theorem Ue{η:D1}(hb:cO η){a h:Int}(h0:0<=a)(h1:a<=(η.length:Int))(n:Nat):(bo η a h n).1.length=n/\∀i,i<(bo η a h n).1.length->0<=(bo η a h n).1.getD i 0/\(bo η a h n).1.getD i 0<=(n:Int)-1:=by
 have D:=pE hb (h:=h) h0 h1 n
 refine⟨D.1,fun i hi=>?_⟩
 have:=D.2.1 _ (A7 hi)
 rwa[<-bv _ 0 i hi]at this
theorem Uf{n:Int}{t:D2}(h:iQ n t)(h1:n<=144):aS t:=by
 have e:=h.1
 refine⟨by omega,fun r hr=>?_⟩
 obtain⟨i,hi,rfl⟩:=BV.1 hr;have:=(h.2 i hi).1
 rw[bv t [] i hi]at this;omega
end Go.Sx
end
