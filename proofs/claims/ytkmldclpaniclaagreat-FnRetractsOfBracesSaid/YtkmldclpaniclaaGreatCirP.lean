/- CirP -/
import Derived.Test.YtkmldclpaniclaaGreatTable
import Derived.Test.YtkmldclpaniclaaGreatOwn2
import Derived.Test.YtkmldclpaniclaaGreatMapQ
import Derived.Test.YtkmldclpaniclaaGreatCmp
import Derived.Test.YtkmldclpaniclaaGreatMapA
set_option linter.unusedSimpArgs false
set_option linter.unusedVariables false
set_option linter.defProp false
section
section
open Go Go.Proofs
namespace Go.Sx
def bG(η:Db):Prop:=∀x∈η,0<=x/\x<=255
theorem J2{η:Db}(h:bG η)(i:Nat):0<=η.getD i 0/\η.getD i 0<=255:=by
 by_cases hi:i<η.length
 ·rw[cg η 0 i hi];exact h _ (CJ hi)
 ·rw[AN,A7 (by omega)];decide
def kv(h:Int):Int:=IntKind.wrap .u64 (IntKind.wrap .u64 (h*6364136223846793005)+1442695040888963407)
def aJ(h n:Int):Int:=if n<1 then h else kv h
def az(L:Nat)(a n:Int):Int:=if n<1 then a else if a<(L:Int)then a+1 else a
def nX(h:Int):Int:=(((kv h / 2 ^ 33).toNat &&& 16777215:Nat):Int)
def aB(η:Db)(a h n:Int):Int:=if n<1 then 0 else if a<(η.length:Int)then(nX h+η.getD a.toNat 0).tmod n else(nX h).tmod n
theorem SJ(x:Int):0<=IntKind.wrap .u64 x/\IntKind.wrap .u64 x<=18446744073709551615:=by
 have:IntKind.wrap .u64 x=x % 18446744073709551616:=rfl
 omega
theorem tmod_in'{a m:Int}(h:0<=a)(hm:1<=m):0<=a.tmod m/\a.tmod m<=m-1:=by
 rw[DS h];have h1:=Int.emod_nonneg a (show m≠0 by omega)
 have h2:=Int.emod_lt_of_pos a (show 0<m by omega)
 omega
def bw(η:Db)(a h:Int):Nat->Db×Int×Int
 |0=>([],a,h)
 |i+1=>let s:=bw η a h i
  let k:=(aB η s.2.1 s.2.2 ((i:Int)+1)).toNat
  (s.1.take k++((i:Int)::s.1.drop k),az η.length s.2.1 ((i:Int)+1),aJ s.2.2 ((i:Int)+1))
theorem J3(h:Int):0<=nX h/\nX h<=16777215:=by
 have:((kv h / 2 ^ 33).toNat &&& 16777215)<=16777215:=Nat.and_le_right
 unfold nX;omega
def nY:List AD->Option Post
 | [.box [.ints .u8 η,.int .i64 a,.int .u64 h],.c (.int .i64 n)]=>some ⟨bG η/\0<=a/\a<=1099511627776,.c (.int .i64 (aB η a h n)),[.bx [.ints .u8 η,.int .i64 (az η.length a n),.int .u64 (aJ h n)]]⟩
 |_=>none
def pH(h:Int):=(↑((IntKind.wrap IntKind.u64 (IntKind.wrap IntKind.u64 (h*(6364136223846793005:Int))+(1442695040888963407:Int)) / (2:Int) ^ (33:Int).toNat).toNat &&& (16777215:Int).toNat):Int)
theorem sE:Fits Tryz.prog 77 ⟨[(0,0)],nY⟩:=by
 refine ffv (Γ:=af []) aG Tryz.func77 fun ds p h ξ=>?_
 unfold nY at h;split at h<;>cases h
 rename_i η a h n
 refine⟨ah,ak,ab (decide (n<(1:Int))) ((0:Int)=aB η a h n/\(η=η/\a=az η.length a n/\h=aJ h n/\True)/\True) (((0:Int)<=(33:Int)/\(33:Int)<=(62:Int))/\(((0:Int)<=IntKind.wrap IntKind.u64 (IntKind.wrap IntKind.u64 (h*(6364136223846793005:Int))+(1442695040888963407:Int)) / (2:Int) ^ (33:Int).toNat/\IntKind.wrap IntKind.u64 (IntKind.wrap IntKind.u64 (h*(6364136223846793005:Int))+(1442695040888963407:Int)) / (2:Int) ^ (33:Int).toNat<=(18446744073709551615:Int))/\(0:Int)<=(16777215:Int)/\(16777215:Int)<=(18446744073709551615:Int))/\ae (pH h)/\ab (decide (a<(η.length:Int))) (aa a η.length/\ae (η.getD a.toNat (0:Int))/\ae ((pH h)+η.getD a.toNat (0:Int))/\ae (a+(1:Int))/\n≠(0:Int)/\Int.tmod ((pH h)+η.getD a.toNat (0:Int)) n=aB η a h n/\(η=η/\a+(1:Int)=az η.length a n/\IntKind.wrap IntKind.u64 (IntKind.wrap IntKind.u64 (h*(6364136223846793005:Int))+(1442695040888963407:Int))=aJ h n/\True)/\True) (n≠(0:Int)/\Int.tmod (pH h) n=aB η a h n/\(η=η/\a=az η.length a n/\IntKind.wrap IntKind.u64 (IntKind.wrap IntKind.u64 (h*(6364136223846793005:Int))+(1442695040888963407:Int))=aJ h n/\True)/\True)),by kernel_rfl,?_⟩
 simp only[pH,aH]at ξ⊢;obtain⟨hb,h0,h1⟩:=ξ;have hr:=J3 h
 have hg:=J2 hb a.toNat
 have hs:0<=kv h/\kv h<=18446744073709551615:=SJ _
 refine⟨fun hn=>⟨(AA hn).symm,(AA hn).symm,(AA hn).symm⟩,fun hn=>⟨?_,?_⟩⟩
 ·exact⟨by decide,by decide⟩
 ·have e2:IntKind.u64.wrap (IntKind.u64.wrap (h*6364136223846793005)+1442695040888963407)=kv h:=rfl
  have e:(((kv h / 2 ^ Int.toNat 33).toNat &&& Int.toNat 16777215:Nat):Int)=nX h:=rfl
  rw[e2,e,show kv h / 2 ^ Int.toNat 33=kv h / 8589934592 from rfl]
  refine⟨by omega,by omega,fun hl=>⟨by omega,by omega,by omega,by omega,by omega,?_,?_,(AB hn).symm⟩,fun hl=>⟨by omega,?_,?_,(AB hn).symm⟩⟩
  ·rw[aB,AB hn,AA hl]
  ·rw[az,AB hn,AA hl]
  ·rw[aB,AB hn,AB hl]
  ·rw[az,AB hn,AB hl]
def fK(η:Db):Nat->Int
 |0=>IntKind.wrap .u64 (6553+IntKind.wrap .u64 (η.length:Int))
 |i+1=>IntKind.wrap .u64 (IntKind.wrap .u64 (IntKind.wrap .u64 (fK η i*1099511628211)+IntKind.wrap .u64 (η.getD i 0))+11)
def zb:List AD->Option Post
 | [.c (.ints .u8 η)]=>some ⟨bG η/\η.length<=4096,.c (.bx [.ints .u8 η,.int .i64 0,.int .u64 (fK η η.length)]),[]⟩
 |_=>none
def J5(η:Db):Nat->Option Ann
 |0=>U' fun i=>⟨⟨[(0,.c (.ro (.ints .u8 η))),(3,N' 10),(4,D' i)],[(10,T' [.ro (.ints .u8 η),.int .i64 0,.int .u64 (fK η i)])]⟩,i<=η.length,η.length-i⟩
 |_=>none
set_option maxRecDepth 100000 in
theorem SP:Fits Tryz.prog 78 ⟨[],zb⟩:=by
 refine ffv (Γ:=af []) aG Tryz.func78 fun ds p h ξ=>?_
 unfold zb at h;split at h<;>cases h
 rename_i η
 refine⟨ah,J5 η,(∃x0:Nat,x0<=η.length/\η=η/\(0:Int)=(x0:Int)/\η=η/\(0:Int)=(0:Int)/\IntKind.wrap IntKind.u64 ((6553:Int)+IntKind.wrap IntKind.u64 (η.length:Int))=fK η x0)/\∀x1:Nat,x1<=η.length->ab (decide ((x1:Int)<(η.length:Int))) (ab (decide ((x1:Int)<(4096:Int))) (aa (x1:Int) η.length/\ae ((x1:Int)+(1:Int))/\∃x2:Nat,x2<=η.length/\η.length-x2<η.length-x1/\η=η/\(x1:Int)+(1:Int)=(x2:Int)/\η=η/\(0:Int)=(0:Int)/\IntKind.wrap IntKind.u64 (IntKind.wrap IntKind.u64 (IntKind.wrap IntKind.u64 (fK η x1*(1099511628211:Int))+IntKind.wrap IntKind.u64 (η.getD (x1:Int).toNat (0:Int)))+(11:Int))=fK η x2) (([FC.ints IntKind.u8 η,FC.int IntKind.i64 (0:Int),FC.int IntKind.u64 (fK η η.length)]≠[]/\η=η/\(0:Int)=(0:Int)/\fK η x1=fK η η.length/\True)/\True)) (([FC.ints IntKind.u8 η,FC.int IntKind.i64 (0:Int),FC.int IntKind.u64 (fK η η.length)]≠[]/\η=η/\(0:Int)=(0:Int)/\fK η x1=fK η η.length/\True)/\True),by kernel_rfl,?_⟩
 simp only[aH]at ξ⊢;obtain⟨hb,h0⟩:=ξ;refine⟨⟨0,by omega,rfl,rfl⟩,fun i hi=>⟨fun h=>⟨fun _=>⟨by omega,by omega,i+1,by omega,by omega,by omega,rfl⟩,fun h2=>by omega⟩,fun h=>⟨by simp,by rw[show i=η.length by omega]⟩⟩⟩
theorem iv{η:Db}(hb:bG η)(a h:Int){n:Int}(hn:1<=n):0<=aB η a h n/\aB η a h n<=n-1:=by
 have hr:=J3 h
 have hg:=J2 hb a.toNat
 rw[aB,AB (by omega)]
 split
 ·exact tmod_in' (by omega) hn
 ·exact tmod_in' (by omega) hn
theorem dN{L:Nat}{a n:Int}(h:0<=a)(hl:a<=(L:Int)):0<=az L a n/\az L a n<=(L:Int):=by
 unfold az;split
 ·omega
 ·split<;>omega
theorem sG{η:Db}(hb:bG η){a h:Int}(h0:0<=a)(h1:a<=(η.length:Int)):∀i:Nat,(bw η a h i).1.length=i/\(∀x∈(bw η a h i).1,0<=x/\x<=(i:Int)-1)/\0<=(bw η a h i).2.1/\(bw η a h i).2.1<=(η.length:Int)
 |0=>⟨rfl,fun x hx=>(List.not_mem_nil hx).elim,h0,h1⟩
 |i+1=>by
  obtain⟨e1,e2,e3,e4⟩:=sG hb (h:=h) h0 h1 i;have v:=iv hb (bw η a h i).2.1 (bw η a h i).2.2 (n:=(i:Int)+1) (by omega)
  have w:=dN (n:=(i:Int)+1) e3 e4
  refine⟨?_,fun x hx=>?_,w.1,w.2⟩
  ·show((bw η a h i).1.take _++((i:Int)::(bw η a h i).1.drop _)).length=i+1
   rw[Al,AR,AS,A6,e1];omega
  ·have hx:x∈(bw η a h i).1.take (aB η (bw η a h i).2.1 (bw η a h i).2.2 ((i:Int)+1)).toNat++((i:Int)::(bw η a h i).1.drop (aB η (bw η a h i).2.1 (bw η a h i).2.2 ((i:Int)+1)).toNat):=hx
   rcases AL.1 hx with hx|hx
   ·have:=e2 x (List.mem_of_mem_take hx);omega
   ·rcases AH.1 hx with rfl|hx
    ·omega
    ·have:=e2 x (List.mem_of_mem_drop hx);omega
def sI:List AD->Option Post
 | [.box [.ints .u8 η,.int .i64 a,.int .u64 h],.c (.int .i64 n)]=>some ⟨bG η/\0<=a/\a<=(η.length:Int)/\η.length<=4096/\0<=n/\n<=144,.c (.ints 2 .i64 (bw η a h n.toNat).1),[.bx [.ints .u8 η,.int .i64 ((bw η a h n.toNat).2.1),.int .u64 ((bw η a h n.toNat).2.2)]]⟩
 |_=>none
def J7(η:Db)(a:Int)(h:Int)(n:Int):Nat->Option Ann
 |0=>U' fun i=>⟨⟨[(0,N' 700),(1,D' n),(5,M' 9),(6,D' i)],[(700,T' [.orig 700 0 (.ints .u8 η),.int .i64 ((bw η a h i).2.1),.int .u64 ((bw η a h i).2.2)]),(9,Q' ((bw η a h i).1))]⟩,(i:Int)<=n,n.toNat-i⟩
 |_=>none
def iw(η:Db)(a:Int)(h:Int)(x0:Nat):=(aB η (((bw η a h x0).2).1) (((bw η a h x0).2).2) ((↑x0:Int)+(1:Int)))
theorem J9:Fits Tryz.prog 183 ⟨[(0,0)],sI⟩:=by
 refine ffv (Γ:=af [(77,⟨[(0,0)],nY⟩)]) (aj sE aG) Tryz.func183 fun ds p h ξ=>?_
 unfold sI at h;split at h<;>cases h
 rename_i η a h n
 refine⟨ah,J7 η a h n,(∃x0:Nat,(x0:Int)<=n/\n=n/\(0:Int)=(x0:Int)/\η=η/\a=((bw η a h x0).2).1/\h=((bw η a h x0).2).2/\[]=(bw η a h x0).1)/\∀x1:Nat,(x1:Int)<=n->ab (decide ((x1:Int)<n)) (ae ((x1:Int)+(1:Int))/\((bG η/\(0:Int)<=((bw η a h x1).2).1/\((bw η a h x1).2).1<=(1099511627776:Int))/\η=η/\True)/\bD (((bw η a h x1).1).length) (Option.some (iw η a h x1)) Option.none/\ar ([(x1:Int)].length+(List.take (((bw η a h x1).1).length-(iw η a h x1).toNat) (List.drop (iw η a h x1).toNat (bw η a h x1).1)).length)/\bD (((bw η a h x1).1).length) Option.none (Option.some (iw η a h x1))/\ar (([]:Db).length+(List.take (iw η a h x1).toNat (bw η a h x1).1).length)/\ar (([]++List.take (iw η a h x1).toNat (bw η a h x1).1).length+([(x1:Int)]++List.take (((bw η a h x1).1).length-(iw η a h x1).toNat) (List.drop (iw η a h x1).toNat (bw η a h x1).1)).length)/\ae ((x1:Int)+(1:Int))/\∃x2:Nat,(x2:Int)<=n/\n.toNat-x2<n.toNat-x1/\n=n/\(x1:Int)+(1:Int)=(x2:Int)/\η=η/\az η.length (((bw η a h x1).2).1) ((x1:Int)+(1:Int))=((bw η a h x2).2).1/\aJ (((bw η a h x1).2).2) ((x1:Int)+(1:Int))=((bw η a h x2).2).2/\[]++List.take (iw η a h x1).toNat (bw η a h x1).1++([(x1:Int)]++List.take (((bw η a h x1).1).length-(iw η a h x1).toNat) (List.drop (iw η a h x1).toNat (bw η a h x1).1))=(bw η a h x2).1) ((bw η a h x1).1=(bw η a h n.toNat).1/\(η=η/\((bw η a h x1).2).1=((bw η a h n.toNat).2).1/\((bw η a h x1).2).2=((bw η a h n.toNat).2).2/\True)/\True),by kernel_rfl,?_⟩
 simp only[iw,aH]at ξ⊢;obtain⟨hb,h0,h1,h2,h3,h4⟩:=ξ;refine⟨⟨0,by omega,rfl,rfl,rfl,rfl⟩,fun i hi=>⟨fun ψ=>?_,fun hge=>?_⟩⟩
 ·obtain⟨e1,e2,e3,e4⟩:=sG hb (h:=h) h0 h1 i
  have v:=iv hb (bw η a h i).2.1 (bw η a h i).2.2 (n:=(i:Int)+1) (by omega)
  refine⟨by omega,⟨hb,e3,by omega⟩,by omega,by omega,by omega,by omega,by omega,by omega,i+1,by omega,by omega,by omega,rfl,rfl,?_⟩
  rw[show ∀k,List.take ((bw η a h i).1.length-k) (List.drop k (bw η a h i).1)=List.drop k (bw η a h i).1 from fun k=>AU (by simp)]
  rfl
 ·rw[show i=n.toNat by omega];exact⟨rfl,rfl,rfl⟩
end Go.Sx
end
section
open Go Go.Proofs
namespace Go.Sx
def gV(n:Int)(t:Dc):Prop:=(t.length:Int)=n/\∀i,i<t.length->((t.getD i []).length:Int)=n/\∀j,j<t.length->0<=(t.getD i []).getD j 0/\(t.getD i []).getD j 0<=n-1
def i9(t:Dc)(p:Db)(x:Nat):Nat->Dc->Dc
 |0,o=>o
 |y+1,o=>let o':=i9 t p x y o
  o'.set (p.getD x 0).toNat ((o'.getD (p.getD x 0).toNat []).set (p.getD y 0).toNat (p.getD ((t.getD x []).getD y 0).toNat 0))
def cW(t:Dc)(p:Db):Nat->Dc
 |0=>t
 |x+1=>i9 t p x t.length (cW t p x)
theorem ST{n:Int}{o:Dc}(h:gV n o){k j:Nat}(hk:(k:Int)<n)(hj:(j:Int)<n){v:Int}(h0:0<=v)(h1:v<=n-1):gV n (o.set k ((o.getD k []).set j v)):=by
 refine⟨by rw[Ai];exact h.1,fun i hi=>?_⟩
 rw[Ai]at hi;have e:=h.2 i hi
 by_cases hik:k=i
 ·subst hik
  have:(o.set k ((o.getD k []).set j v)).getD k []=(o.getD k []).set j v:=by
   rw[AN,BY hi];rfl
  rw[this,Ai,Ai];refine⟨e.1,fun x hx=>?_⟩
  by_cases hxj:j=x
  ·subst hxj
   have:((o.getD k []).set j v).getD j 0=v:=by
    rw[AN,BY (by omega)];rfl
   rw[this];exact⟨h0,h1⟩
  ·have:((o.getD k []).set j v).getD x 0=(o.getD k []).getD x 0:=by
    rw[AN,BQ hxj,<-AN]
   rw[this];exact e.2 x hx
 ·have:(o.set k ((o.getD k []).set j v)).getD i []=o.getD i []:=by
   rw[AN,BQ hik,<-AN]
  rw[this,Ai];exact e
section
variable {t:Dc} {p:Db} (ht:gV (t.length:Int) t) (hp:p.length=t.length) (hq:∀i,i<p.length->0<=p.getD i 0/\p.getD i 0<=(t.length:Int)-1)
include ht hp hq
theorem ze(x:Nat)(hx:x<t.length):∀(y:Nat),y<=t.length->∀o,gV (t.length:Int) o->gV (t.length:Int) (i9 t p x y o)
 |0,_,o,h=>h
 |y+1,hy,o,h=>by
  have e:=ze x hx y (by omega) o h
  have q1:=hq x (by omega)
  have q2:=hq y (by omega)
  have t1:=(ht.2 x hx).2 y (by omega)
  have q3:=hq ((t.getD x []).getD y 0).toNat (by omega)
  exact ST e (by omega) (by omega) q3.1 q3.2
theorem zf:∀(x:Nat),x<=t.length->gV (t.length:Int) (cW t p x)
 |0,_=>ht
 |x+1,hx=>ze ht hp hq x (by omega) _ (AE _) _ (zf x (by omega))
end
def sK:List AD->Option Post
 | [.c (.rows .i64 t),.c (.ints .i64 p)]=>some ⟨aD t/\t.length<=144/\gV (t.length:Int) t/\p.length=t.length/\(∀i,i<p.length->0<=p.getD i 0/\p.getD i 0<=(t.length:Int)-1),.c (.rows 62 2 .i64 (cW t p t.length)),[]⟩
 |_=>none
def Ka(t:Dc)(p:Db):Nat->Option Ann
 |0=>V' (fun i=>⟨⟨[(0,I' t),(1,G' p),(5,M' 9),(6,D' i)],[(9,O' (cW t p i))]⟩,i<=t.length,t.length-i⟩) (fun i b_=>match b_ with|2=>U' fun j=>⟨⟨[(0,I' t),(1,G' p),(5,M' 9),(6,D' i),(7,D' j)],[(9,O' (i9 t p i j (cW t p i)))]⟩,j<=t.length/\i<t.length,t.length-j⟩|_=>none)
 |_=>none
theorem Kc:Fits Tryz.prog 143 ⟨[],sK⟩:=by
 refine ffv (Γ:=af [(96,⟨[],uP⟩)]) (aj Nj aG) Tryz.func143 fun ds p h ξ=>?_
 unfold sK at h;split at h<;>cases h
 rename_i t p
 refine⟨ah,Ka t p,(aD t/\True)/\(∃x0:Nat,x0<=t.length/\t=t/\p=p/\(0:Int)=(x0:Int)/\t=cW t p x0)/\∀x1:Nat,x1<=t.length->ab (decide ((x1:Int)<(t.length:Int))) ((∃x2:Nat,(x2<=t.length/\x1<t.length)/\t=t/\p=p/\(x1:Int)=(x1:Int)/\(0:Int)=(x2:Int)/\cW t p x1=i9 t p x1 x2 (cW t p x1))/\∀x3:Nat,x3<=t.length/\x1<t.length->ab (decide ((x3:Int)<(t.length:Int))) (aa (x1:Int) p.length/\aa (p.getD (x1:Int).toNat (0:Int)) ((i9 t p x1 x3 (cW t p x1)).length)/\aa (x3:Int) p.length/\aa (x1:Int) t.length/\aa (x3:Int) ((t.getD (x1:Int).toNat []).length)/\aa ((List.getD t (x1:Int).toNat []).getD (x3:Int).toNat (0:Int)) p.length/\aa (p.getD (x3:Int).toNat (0:Int)) (((i9 t p x1 x3 (cW t p x1)).getD ((p.getD (x1:Int).toNat (0:Int)).toNat) []).length)/\ae ((x3:Int)+(1:Int))/\∃x4:Nat,(x4<=t.length/\x1<t.length)/\t.length-x4<t.length-x3/\t=t/\p=p/\(x1:Int)=(x1:Int)/\(x3:Int)+(1:Int)=(x4:Int)/\List.set (i9 t p x1 x3 (cW t p x1)) ((p.getD (x1:Int).toNat (0:Int)).toNat) (List.set ((i9 t p x1 x3 (cW t p x1)).getD ((p.getD (x1:Int).toNat (0:Int)).toNat) []) ((p.getD (x3:Int).toNat (0:Int)).toNat) (p.getD (((List.getD t (x1:Int).toNat []).getD (x3:Int).toNat (0:Int)).toNat) (0:Int)))=i9 t p x1 x4 (cW t p x1)) (ae ((x1:Int)+(1:Int))/\∃x5:Nat,x5<=t.length/\t.length-x5<t.length-x1/\t=t/\p=p/\(x1:Int)+(1:Int)=(x5:Int)/\i9 t p x1 x3 (cW t p x1)=cW t p x5)) (cW t p x1=cW t p t.length/\True),by kernel_rfl,?_⟩
 simp only[aH]at ξ⊢;obtain⟨r0,h0,h1,h2,h3⟩:=ξ;have q:=fun x (hx:x<t.length)=>h3 x (by omega)
 have I:=zf h1 (by omega) h3
 refine⟨r0,⟨0,by omega,rfl,rfl⟩,fun i hi=>⟨fun h=>⟨⟨0,⟨by omega,by omega⟩,rfl,rfl⟩,fun j ⟨hj,_⟩=>⟨fun h4=>?_,fun h4=>?_⟩⟩,fun h=>by rw[show i=t.length by omega]⟩⟩
 ·have C:=ze h1 (by omega) h3 i (by omega) j (by omega) _ (I i (by omega))
  have q1:=q i (by omega)
  have q2:=q j (by omega)
  have t1:=h1.2 i (by omega)
  have t2:=t1.2 j (by omega)
  have c1:=C.1
  have c2:=(C.2 (p.getD i 0).toNat (by omega)).1
  exact⟨by omega,by omega,by omega,by omega,by omega,by omega,by omega,by omega,j+1,by omega,by omega,by omega,rfl⟩
 ·exact⟨by omega,i+1,by omega,by omega,by omega,by rw[show j=t.length by omega];rfl⟩
end Go.Sx
end
section
open Go Go.Proofs
namespace Go.Sx
def Kd(p:Db):Nat->Db
 |0=>List.replicate p.length 0
 |i+1=>(Kd p i).set (p.getD i 0).toNat (i:Int)
def pI(p:Db):Db:=Kd p p.length
def bA(p q:Db):Db:=p.map fun x=>q.getD x.toNat 0
def kw(n:Nat)(p:Db):Prop:=∀i,i<p.length->0<=p.getD i 0/\p.getD i 0<(n:Int)
def nZ:List AD->Option Post
 | [.c (.ints .i64 p),.c (.ints .i64 q)]=>some ⟨ar p.length/\kw q.length p,.c (.ints 2 .i64 (bA p q)),[]⟩
 |_=>none
def Ke(p:Db)(q:Db):Nat->Option Ann
 |0=>U' fun i=>⟨⟨[(0,G' p),(1,G' q),(5,M' 10),(6,D' i)],[(10,Q' (bA (p.take i) q))]⟩,i<=p.length,p.length-i⟩
 |_=>none
theorem sM:Fits Tryz.prog 189 ⟨[],nZ⟩:=by
 refine ffv (Γ:=af []) aG Tryz.func189 fun ds p h ξ=>?_
 unfold nZ at h;split at h<;>cases h
 rename_i p q
 refine⟨ah,Ke p q,(∃x0:Nat,x0<=p.length/\p=p/\q=q/\(0:Int)=(x0:Int)/\[]=bA (List.take x0 p) q)/\∀x1:Nat,x1<=p.length->ab (decide ((x1:Int)<(p.length:Int))) (aa (x1:Int) p.length/\aa (p.getD (x1:Int).toNat (0:Int)) q.length/\ar ((bA (List.take x1 p) q).length+[q.getD ((p.getD (x1:Int).toNat (0:Int)).toNat) (0:Int)].length)/\ae ((x1:Int)+(1:Int))/\∃x2:Nat,x2<=p.length/\p.length-x2<p.length-x1/\p=p/\q=q/\(x1:Int)+(1:Int)=(x2:Int)/\bA (List.take x1 p) q++[q.getD ((p.getD (x1:Int).toNat (0:Int)).toNat) (0:Int)]=bA (List.take x2 p) q) (bA (List.take x1 p) q=bA p q/\True),by kernel_rfl,?_⟩
 simp only[aH]at ξ⊢;obtain⟨h1,h2⟩:=ξ;refine⟨⟨0,by omega,rfl,rfl⟩,fun i hi=>⟨fun h=>?_,fun h=>?_⟩⟩
 ·have hr:=h2 i (by omega)
  have hl:(bA (p.take i) q).length=i:=by rw[bA,Ae,AS];omega
  refine⟨by omega,by omega,by omega,by omega,i+1,by omega,by omega,by omega,?_⟩
  rw[<-eo p 0 i (by omega),bA,bA,BZ];rfl
 ·rw[AU (by omega)]
end Go.Sx
end
section
open Go Go.Proofs
namespace Go.Sx
abbrev Dr:=Dc×Int×Int
def Kg(z:Db):Dc->Nat
 | []=>0
 |a::r=>if a=z then 0 else Kg z r+1
def Kh(A:Dc)(x y:Nat):Db:=bA (bA (pI (A.getD x [])) (A.getD y [])) (A.getD x [])
structure CjOk (A:Dc):Prop where
 le:A.length<=6
 ge:1<=A.length
 len:∀x,x<A.length->(A.getD x []).length=3
 el:∀x,x<A.length->kw 3 (A.getD x [])
 at_:∀x y,x<A.length->y<A.length->Kg (Kh A x y) A<A.length
 th:∀x y,x<A.length->y<A.length->(bA (pI (A.getD x [])) (A.getD y [])).length=3/\kw 3 (bA (pI (A.getD x [])) (A.getD y []))
 bk:∀x,x<A.length->(pI (A.getD x [])).length=3/\kw 3 (pI (A.getD x []))
 z:∀x y,x<A.length->y<A.length->(Kh A x y).length=3
end Go.Sx
end
section
open Go Go.Proofs
namespace Go.Sx
theorem SZ{η:Db}(hb:bG η){a h:Int}(h0:0<=a)(h1:a<=(η.length:Int))(n:Nat):(bw η a h n).1.length=n/\∀i,i<(bw η a h n).1.length->0<=(bw η a h n).1.getD i 0/\(bw η a h n).1.getD i 0<=(n:Int)-1:=by
 have D:=sG hb (h:=h) h0 h1 n
 refine⟨D.1,fun i hi=>?_⟩
 have:=D.2.1 _ (CJ hi)
 rwa[<-cg _ 0 i hi]at this
theorem n6{n:Int}{t:Dc}(h:gV n t)(h1:n<=144):aD t:=by
 have e:=h.1
 refine⟨by omega,fun r hr=>?_⟩
 obtain⟨i,hi,rfl⟩:=List.mem_iff_getElem.1 hr;have:=(h.2 i hi).1
 rw[cg t [] i hi]at this;omega
end Go.Sx
end
end
section
open Go Go.Proofs
namespace Go.Sx
/- Permutations of n elements that are closed. -/
structure AuOk (n:Nat) (A:Dc):Prop where
 pos:1<=A.length
 len:∀i,i<A.length->(A.getD i []).length=n
 rng:∀i x,i<A.length->x<n->0<=en A i x/\en A i x<(n:Int)
 cl:∀i j,i<A.length->j<A.length->bA (A.getD i []) (A.getD j [])∈A
def ja(A:Dc)(i j:Int):Nat:=f6 A (bA (A.getD i.toNat []) (A.getD j.toNat []))
structure KOk (n m:Nat) (K:Db):Prop where
 len:K.length=n
 rng:∀x,x<n->-1<=K.getD x 0/\K.getD x 0<(m:Int)
theorem KOk.set{n m:Nat}{K:Db}(h:KOk n m K)(z:Nat){w:Int}(hw:-1<=w/\w<(m:Int)):KOk n m (K.set z w) where
 len:=by rw[Ai];exact h.len
 rng x hx:=by
  rw[kq _ _ _ _ (by rw[h.len];exact hx)]
  split
  ·exact hw
  ·exact h.rng x hx
def aL(K:Db):Nat:=K.countP fun x=>decide (x<0)
theorem sN{K:Db}{z:Nat}{w:Int}(hz:z<K.length)(h:K.getD z 0<0)(hw:0<=w):aL (K.set z w)+1=aL K:=by
 unfold aL
 induction K generalizing z with
 |nil=>simp at hz
 |cons k K ih =>
  cases z with
  |zero =>
   have h:k<0:=h
   have hw':¬ w<0:=by omega
   simp[h,hw']
  |succ z =>
   have:=ih (z:=z) (by simpa using hz) h
   simp only[List.set_cons_succ,CK];omega
theorem S3(K:Db):aL K<=K.length:=List.countP_le_length
def fL(t A:Dc)(o:Db)(x y:Nat):Nat:=(en t x (en A (o.getD x 0).toNat y).toNat).toNat
def gy(A:Dc)(o:Db)(x y:Nat):Int:=(ja A (o.getD y 0) (o.getD x 0):Int)
def iA(t A:Dc)(o:Db)(x y:Nat):Option Db :=
 if o.getD x 0<0\/o.getD y 0<0 then some o
 else if o.getD (fL t A o x y) 0<0 then some (o.set (fL t A o x y) (gy A o x y))
 else if o.getD (fL t A o x y) 0=gy A o x y then some o else none
def d4(t A:Dc)(o:Db)(x:Nat):Nat->Option Db
 |0=>some o
 |y+1=>(d4 t A o x y).bind fun o'=>iA t A o' x y
def fo(t A:Dc)(o:Db):Nat->Option Db
 |0=>some o
 |x+1=>(fo t A o x).bind fun o'=>d4 t A o' x t.length
def gz(t A:Dc):Nat->Db->Option Db
 |0,o=>some o
 |fu+1,o=>match fo t A o t.length with
  |none=>none
  |some o'=>if aL o'<aL o then gz t A fu o' else some o'
def eU(t A:Dc)(K:Db):Option Db:=gz t A (t.length+1) K
section
variable {n:Nat} {t A:Dc}
theorem Ki(hA:AuOk n A){o:Db}(ho:KOk n A.length o){x y:Nat}(hx:x<n)(hy:y<n)(h1:0<=o.getD x 0)(h2:0<=o.getD y 0):bA (A.getD (o.getD y 0).toNat []) (A.getD (o.getD x 0).toNat [])∈A/\0<=gy A o x y/\gy A o x y<(A.length:Int):=by
 have a:=ho.rng x hx
 have b:=ho.rng y hy
 have m:=hA.cl (o.getD y 0).toNat (o.getD x 0).toNat (by omega) (by omega)
 have:=(p6 m).1
 refine⟨m,?_⟩
 unfold gy ja;omega
theorem Kj(ht:ba n t)(hA:AuOk n A){o:Db}(ho:KOk n A.length o){x y:Nat}(hx:x<n)(hy:y<n)(h1:0<=o.getD x 0):(0<=en A (o.getD x 0).toNat y/\en A (o.getD x 0).toNat y<(n:Int))/\(0<=en t x (en A (o.getD x 0).toNat y).toNat/\en t x (en A (o.getD x 0).toNat y).toNat<(n:Int))/\fL t A o x y<n:=by
 have a:=ho.rng x hx
 have b:=hA.rng (o.getD x 0).toNat y (by omega) hy
 have c:=(ht.2 x hx).2 (en A (o.getD x 0).toNat y).toNat (by omega)
 refine⟨b,c,?_⟩
 unfold fL;omega
theorem S4(ht:ba n t)(hA:AuOk n A){o o':Db}(ho:KOk n A.length o){x y:Nat}(hx:x<n)(hy:y<n)(h:iA t A o x y=some o'):KOk n A.length o'/\aL o'<=aL o:=by
 unfold iA at h;split at h
 ·cases h;exact⟨ho,AE _⟩
 ·rename_i hn
  have h1:0<=o.getD x 0:=by omega
  have h2:0<=o.getD y 0:=by omega
  have w:=Ki hA ho hx hy h1 h2
  have z:=Kj ht hA ho hx hy h1
  split at h
  ·rename_i hz
   cases h;have:=sN (K:=o) (z:=fL t A o x y) (by rw[ho.len];exact z.2.2) hz w.2.1
   exact⟨ho.set _ ⟨by omega,w.2.2⟩,by omega⟩
  ·split at h
   ·cases h;exact⟨ho,AE _⟩
   ·cases h
theorem Kk(ht:ba n t)(hA:AuOk n A){o:Db}(ho:KOk n A.length o){x:Nat}(hx:x<n):∀(y:Nat) {o':Db},y<=n->d4 t A o x y=some o'->KOk n A.length o'/\aL o'<=aL o
 |0,o',_,h=>by cases h;exact⟨ho,AE _⟩
 |y+1,o',hy,h=>by
  rw[d4]at h;obtain⟨o1,h1,h2⟩:=DT.1 h;have a:=Kk ht hA ho hx y (by omega) h1
  have b:=S4 ht hA a.1 hx (by omega) h2
  exact⟨b.1,by omega⟩
theorem Kl(ht:ba n t)(hA:AuOk n A){o:Db}(ho:KOk n A.length o):∀(x:Nat) {o':Db},x<=n->fo t A o x=some o'->KOk n A.length o'/\aL o'<=aL o
 |0,o',_,h=>by cases h;exact⟨ho,AE _⟩
 |x+1,o',hx,h=>by
  rw[fo]at h;obtain⟨o1,h1,h2⟩:=DT.1 h;have a:=Kl ht hA ho x (by omega) h1
  have b:=Kk ht hA a.1 (by omega) t.length (by rw[ht.1];exact AE _) h2
  exact⟨b.1,by omega⟩
theorem Km(ht:ba n t)(hA:AuOk n A):∀(fu:Nat) {o o':Db},KOk n A.length o->gz t A fu o=some o'->KOk n A.length o'/\aL o'<=aL o
 |0,o,o',ho,h=>by cases h;exact⟨ho,AE _⟩
 |fu+1,o,o',ho,h=>by
  rw[gz]at h;split at h
  ·cases h
  ·rename_i o1 h1
   have a:=Kl ht hA ho t.length (by rw[ht.1];exact AE _) h1
   split at h
   ·have b:=Km ht hA fu a.1 h
    exact⟨b.1,by omega⟩
   ·cases h;exact a
end
/- The order of tables, and the list of circles. -/
def dj:Dc->Dc->Bool
 |x::a,y::b=>if x=y then dj a b else bj x y
 |_,_=>false
def ep(c:Dc):Dd->Nat
 | []=>0
 |k::K=>if dj k c=true then ep c K+1 else 0
theorem zi(c:Dc):∀K,ep c K<=K.length
 | []=>AE _
 |k::K=>by
  rw[ep];split
  ·exact CM (zi c K)
  ·exact Ad _
theorem zj(c:Dc):∀(K:Dd) (i:Nat),(∀j,j<i->dj (K.getD j []) c=true)->i<=K.length->(∀h:i<K.length,dj (K.getD i []) c=false)->ep c K=i
 | [],i,_,h,_=>by simp at h;subst h;rfl
 |k::K,0,_,_,h=>by
  have:=h (by simp)
  have h2:dj k c=false:=this
  rw[ep,AB (by rw[h2];simp)]
 |k::K,i+1,a,b,d=>by
  have h0:dj k c=true:=a 0 (by omega)
  rw[ep,AA h0,zj c K i (fun j hj=>a (j+1) (by omega)) (by simpa using b) (fun h=>d (by simpa using h))]
def n7(out:Dd)(c:Dc):Dd:=out.take (ep c out)++c::out.drop (ep c out)
theorem zk(out:Dd)(c:Dc):(n7 out c).length=out.length+1:=by
 have:=zi c out
 simp[n7];omega
theorem S5(out:Dd)(c x:Dc):x∈n7 out c↔x=c\/x∈out:=by
 have h1:(n7 out c).Perm (c::(out.take (ep c out)++out.drop (ep c out))):=List.perm_middle
 rw[CO]at h1;rw[h1.mem_iff,AH]
def a9:Db->Nat
 | []=>0
 |k::K=>if 0<=k then a9 K+1 else 0
theorem pJ:∀K,a9 K<=K.length
 | []=>AE _
 |k::K=>by
  rw[a9];split
  ·exact CM (pJ K)
  ·exact Ad _
theorem zl:∀(K:Db) (i:Nat),(∀j,j<i->0<=K.getD j 0)->i<=K.length->(∀h:i<K.length,K.getD i 0<0)->a9 K=i
 | [],i,_,h,_=>by simp at h;subst h;rfl
 |k::K,0,_,_,h=>by
  have h2:k<0:=h (by simp)
  rw[a9,AB (by omega)]
 |k::K,i+1,a,b,d=>by
  have h0:0<=k:=a 0 (by omega)
  rw[a9,AA h0,zl K i (fun j hj=>a (j+1) (by omega)) (by simpa using b) (fun h=>d (by simpa using h))]
theorem Ko:∀(K:Db),a9 K<K.length->K.getD (a9 K) 0<0
 | [],h=>by simp at h
 |k::K,h=>by
  rw[a9]at h⊢;split
  ·rename_i q
   rw[AA q]at h;exact Ko K (by simpa using h)
  ·rename_i q
   show k<0
   omega
theorem sO:∀(K:Db),a9 K=K.length->∀j,j<K.length->0<=K.getD j 0
 | [],_,j,h=>by simp at h
 |k::K,h,j,hj=>by
  rw[a9]at h;split at h
  ·rename_i q
   cases j with
   |zero=>exact q
   |succ j=>exact sO K (by simpa using h) j (by simpa using hj)
  ·simp at h
def b9(t A:Dc)(K:Db):Dc:=(List.range t.length).map fun y=>bA (A.getD (K.getD y 0).toNat []) (t.getD y [])
def dS(g:Nat->Dd->Dd)(out:Dd):Nat->Dd
 |0=>out
 |i+1=>g i (dS g out i)
def dp(t A:Dc)(rec:Db->Dd->Dd)(K:Db)(i:Nat)(o:Dd):Dd :=
 match eU t A (K.set (a9 K) (i:Int))with
 |none=>o
 |some K'=>rec K' o
def cP(t A:Dc):Nat->Db->Dd->Dd
 |0,_,out=>out
 |d+1,K,out=>if a9 K=K.length then n7 out (b9 t A K)else dS (dp t A (cP t A d) K) out A.length
theorem sP{P:Dd->Prop}{g:Nat->Dd->Dd}{out:Dd}(h0:P out):∀m,(∀i o,i<m->P o->P (g i o))->P (dS g out m)
 |0,_=>h0
 |m+1,hg=>hg m _ (by omega) (sP h0 m fun i o hi=>hg i o (by omega))
section
variable {n:Nat} {t A:Dc}
theorem zm{K:Db}(hx:a9 K<K.length){i:Nat}:aL (K.set (a9 K) (i:Int))+1=aL K:=sN hx (Ko K hx) (by omega)
theorem n8(ht:ba n t)(hA:AuOk n A){K K':Db}(hK:KOk n A.length K)(hx:a9 K<K.length){i:Nat}(hi:i<A.length)(h:eU t A (K.set (a9 K) (i:Int))=some K'):KOk n A.length K'/\aL K'+1<=aL K:=by
 have a:=Km ht hA _ (hK.set (a9 K) (w:=(i:Int)) ⟨by omega,by omega⟩) h
 have:=zm hx (i:=i)
 exact⟨a.1,by omega⟩
theorem zn(ht:ba n t)(hA:AuOk n A){Q:Dc->Prop}(hQ:∀K,KOk n A.length K->a9 K=K.length->Q (b9 t A K)):∀(d:Nat) (K:Db) (out:Dd),KOk n A.length K->(∀c,c∈out->Q c)->∀c,c∈cP t A d K out->Q c
 |0,K,out,_,ho=>ho
 |d+1,K,out,hK,ho=>by
  rw[cP];split
  ·rename_i h
   intro c hc
   rcases(S5 _ _ _).1 hc with rfl|hc
   ·exact hQ K hK h
   ·exact ho c hc
  ·rename_i h
   have hx:a9 K<K.length:=by have:=pJ K;omega
   refine sP (P:=fun o=>∀c,c∈o->Q c) ho A.length fun i o hi hP=>?_
   unfold dp;split
   ·exact hP
   ·rename_i K' hs
    exact zn ht hA hQ d K' o (n8 ht hA hK hx hi hs).1 hP
theorem zo{c:Nat}{g:Nat->Dd->Dd}{out:Dd}:∀m,(∀i o,i<m->(g i o).length<=o.length+c)->(dS g out m).length<=out.length+m*c
 |0,_=>by simp[dS]
 |m+1,hg=>by
  have a:=zo (g:=g) (out:=out) (c:=c) m fun i o hi=>hg i o (by omega)
  have b:=hg m (dS g out m) (by omega)
  rw[dS,Nat.succ_mul];omega
theorem Kp(ht:ba n t)(hA:AuOk n A){M:Nat}(hM:A.length<=M)(h1:1<=M):∀(d:Nat) (K:Db) (out:Dd),KOk n A.length K->(cP t A d K out).length<=out.length+M ^ aL K
 |0,K,out,_=>by rw[cP];omega
 |d+1,K,out,hK=>by
  rw[cP];split
  ·have:=Ck (aL K) M h1
   rw[zk];omega
  ·rename_i h
   have hx:a9 K<K.length:=by have:=pJ K;omega
   have hp:1<=aL K:=by have:=zm hx (i:=0);omega
   have:=zo (g:=dp t A (cP t A d) K) (out:=out) (c:=M ^ (aL K-1)) A.length fun i o hi=>by
    unfold dp;split
    ·omega
    ·rename_i K' hs
     have q:=n8 ht hA hK hx hi hs
     have a:=Kp ht hA hM h1 d K' o q.1
     have b:M ^ aL K'<=M ^ (aL K-1):=Bh h1 (by omega)
     omega
   have e:M ^ aL K=M ^ (aL K-1)*M:=by rw[<-Bg];congr 1;omega
   have f:A.length*M ^ (aL K-1)<=M ^ (aL K-1)*M:=by rw[Nat.mul_comm];exact Cl _ hM
   omega
theorem Kq:∀(d:Nat) (K:Db) (out:Dd),out.length<=(cP t A d K out).length
 |0,K,out=>AE _
 |d+1,K,out=>by
  rw[cP];split
  ·rw[zk];omega
  ·refine sP (P:=fun o=>out.length<=o.length) (AE _) A.length fun i o _ hP=>?_
   unfold dp;split
   ·exact hP
   ·exact An hP (Kq d _ o)
def Z0(n:Nat)(o:Db):Prop:=o.length=n/\∀x,x<n->o.getD x 0=-1\/o.getD x 0=0
theorem Z0.ok{o:Db}(z:Z0 n o)(hA:AuOk n A):KOk n A.length o:=⟨z.1,fun x hx=>by
 have:=hA.pos
 rcases z.2 x hx with h|h<;>omega⟩
theorem Z0.set{o:Db}(z:Z0 n o)(q:Nat):Z0 n (o.set q 0):=⟨by rw[Ai];exact z.1,fun x hx=>by
 rw[kq _ _ _ _ (by rw[z.1];exact hx)]
 split
 ·exact .inr rfl
 ·exact z.2 x hx⟩
theorem S6(h0:ja A 0 0=0){o:Db}(hz:Z0 n o)(x y:Nat):∃o',iA t A o x y=some o'/\Z0 n o':=by
 unfold iA;by_cases c:o.getD x 0<0\/o.getD y 0<0
 ·rw[AA c];exact⟨o,rfl,hz⟩
 ·rw[AB c]
  have e:∀x,¬ o.getD x 0<0->o.getD x 0=0:=fun x h=>by
   by_cases q:x<n
   ·rcases hz.2 x q with r|r<;>omega
   ·rw[AN,A7 (by have:=hz.1;omega)];rfl
  have w:gy A o x y=0:=by
   unfold gy;rw[e x (fun q=>c (.inl q)),e y (fun q=>c (.inr q)),h0];rfl
  rw[w];by_cases z:o.getD (fL t A o x y) 0<0
  ·rw[AA z];exact⟨_,rfl,hz.set _⟩
  ·rw[AB z,AA (e _ z)];exact⟨o,rfl,hz⟩
theorem Kr(h0:ja A 0 0=0){o:Db}(hz:Z0 n o)(x:Nat):∀y,∃o',d4 t A o x y=some o'/\Z0 n o'
 |0=>⟨o,rfl,hz⟩
 |y+1=>by
  obtain⟨o1,h1,z1⟩:=Kr h0 hz x y;obtain⟨o2,h2,z2⟩:=S6 (t:=t) h0 z1 x y;exact⟨o2,by rw[d4,h1];exact h2,z2⟩
theorem Ks(h0:ja A 0 0=0){o:Db}(hz:Z0 n o):∀x,∃o',fo t A o x=some o'/\Z0 n o'
 |0=>⟨o,rfl,hz⟩
 |x+1=>by
  obtain⟨o1,h1,z1⟩:=Ks h0 hz x;obtain⟨o2,h2,z2⟩:=Kr (t:=t) h0 z1 x t.length;exact⟨o2,by rw[fo,h1];exact h2,z2⟩
theorem Kt(h0:ja A 0 0=0):∀(fu:Nat) {o:Db},Z0 n o->∃o',gz t A fu o=some o'/\Z0 n o'
 |0,o,hz=>⟨o,rfl,hz⟩
 |fu+1,o,hz=>by
  obtain⟨o1,h1,z1⟩:=Ks (t:=t) h0 hz t.length;rw[gz,h1];simp only;split
  ·exact Kt h0 fu z1
  ·exact⟨o1,rfl,z1⟩
theorem Ku(ht:ba n t)(hA:AuOk n A)(h0:ja A 0 0=0):∀(d:Nat) (K:Db) (out:Dd),Z0 n K->aL K<d->1<=(cP t A d K out).length
 |0,K,out,_,h=>by omega
 |d+1,K,out,hz,hd=>by
  rw[cP];split
  ·rw[zk];omega
  ·rename_i h
   have hx:a9 K<K.length:=by have:=pJ K;omega
   have key:∀m,1<=m->m<=A.length->1<=(dS (dp t A (cP t A d) K) out m).length:=fun m=>by
    induction m with
    |zero=>intro h;omega
    |succ m ih =>
     intro _ hm
     rw[dS];by_cases q:m=0
     ·subst q
      unfold dp;obtain⟨K',h1,z1⟩:=Kt (t:=t) h0 (t.length+1) (hz.set (a9 K));have h1:eU t A (K.set (a9 K) ((0:Nat):Int))=some K':=h1
      rw[h1];have:=n8 ht hA (hz.ok hA) hx (i:=0) (by omega) h1
      exact Ku ht hA h0 d K' _ z1 (by omega)
     ·have:=ih (by omega) (by omega)
      unfold dp;split
      ·exact this
      ·exact An this (Kq d _ _)
   exact key A.length hA.pos (AE _)
end
def gA(t A:Dc):Dd:=cP t A 12 ((List.replicate t.length (-1)).set 0 0) []
theorem zp{n:Nat}:Z0 n ((List.replicate n (-1)).set 0 0):=by
 have z:Z0 n (List.replicate n (-1)):=⟨by simp,fun x hx=>.inl (by simp[AN,hx])⟩
 exact z.set 0
theorem Kv{n:Nat}(h:1<=n):aL ((List.replicate n (-1)).set 0 0)+1=n:=by
 rw[sN (by simp;omega) (by simp[AN,show 0<n by omega]) (by omega)]
 simp[aL,List.countP_replicate]
theorem S7{n:Nat}{t A:Dc}(ht:ba n t)(hn:1<=n)(hn2:n<=12)(hA:AuOk n A)(h0:ja A 0 0=0):1<=(gA t A).length/\∀c,c∈gA t A->ba n c:=by
 have e:t.length=n:=ht.1
 refine⟨Ku ht hA h0 _ _ _ (by rw[e];exact zp) (by have:=Kv hn;rw[e];omega),?_⟩
 refine zn ht hA (Q:=ba n) (fun K hK hp=>?_) 12 _ [] (Z0.ok (by rw[e];exact zp) hA) (fun c hc=>by simp at hc)
 refine⟨by simp[b9,e],fun x hx=>?_⟩
 have hk:=sO K hp x (by rw[hK.len];exact hx)
 have hr:=hK.rng x hx
 have row:(b9 t A K).getD x []=bA (A.getD (K.getD x 0).toNat []) (t.getD x []):=by
  rw[b9];simp[AN,e,hx]
 have L:=hA.len (K.getD x 0).toNat (by omega)
 refine⟨by rw[row,bA,Ae,L],fun y hy=>?_⟩
 have r:=hA.rng (K.getD x 0).toNat y (by omega) hy
 have v:=(ht.2 x hx).2 (en A (K.getD x 0).toNat y).toNat (by omega)
 have:en (b9 t A K) x y=en t x (en A (K.getD x 0).toNat y).toNat:=by
  unfold en at *;rw[row,bA,rS _ _ 0 0 _ (by omega)]
 rw[this];exact v
end Go.Sx
end
