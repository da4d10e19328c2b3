/- Quot -/
import Derived.Test.YtkmldclpaniclaaGreatIds
set_option linter.unusedSimpArgs false
set_option linter.unusedVariables false
set_option linter.defProp false
open Go Go.Proofs
namespace Go.Sx
theorem EX(l:Db):(bI l).length=l.length:=bK _ _
theorem uQ(l:Db)(i:Nat)(h:i<l.length):(bI l).getD i 0=bm (l.getD i 0) (a8 l (i+1)) 0:=cj _ _ _ h
theorem EY(t:Dc)(s:Int):(bW t s).length=t.length:=bK _ _
def uS:List AD->Option Post
 | [.c (.ints .i64 l)]=>some ⟨l.length<=1000,.c (.ints 2 .i64 (bI l)),[]⟩
 |_=>none
def Nk(l:Db):Nat->Option Ann
 |0=>U' fun i=>⟨⟨[(3,M' 3),(4,M' 10),(11,G' l),(12,D' l.length),(13,D' i)],[(3,Q' (a8 l i)),(10,Q' (((bI l).take i++List.replicate (l.length-i) 0)))]⟩,i<=l.length,l.length-i⟩
 |_=>none
theorem Nm:Fits Tryz.prog 154 ⟨[],uS⟩:=by
 refine ffv (Γ:=af [(179,⟨[],tg⟩)]) (aj KZ aG) Tryz.func154 fun ds p h ξ=>?_
 unfold uS at h;split at h<;>cases h
 rename_i l
 refine⟨ah,Nk l,((0:Int)<=(l.length:Int)/\(l.length:Int)<=(l.length:Int)/\ar ((l.length:Int).toNat))/\(∃x0:Nat,x0<=l.length/\l=l/\(l.length:Int)=(l.length:Int)/\(0:Int)=(x0:Int)/\a8 l x0=[]/\List.replicate ((l.length:Int).toNat) (0:Int)=List.take x0 (bI l)++List.replicate (l.length-x0) (0:Int))/\∀x1:Nat,x1<=l.length->ab (decide ((x1:Int)<(l.length:Int))) (aa (x1:Int) l.length/\((a8 l x1).length<=(1099511627776:Nat)/\True)/\ab (decide (bm (l.getD (x1:Int).toNat (0:Int)) (a8 l x1) (0:Int)<(0:Int))) (ar ((a8 l x1).length+[l.getD (x1:Int).toNat (0:Int)].length)/\aa (x1:Int) ((List.take x1 (bI l)++List.replicate (l.length-x1) (0:Int)).length)/\ae ((x1:Int)+(1:Int))/\∃x2:Nat,x2<=l.length/\l.length-x2<l.length-x1/\l=l/\(l.length:Int)=(l.length:Int)/\(x1:Int)+(1:Int)=(x2:Int)/\a8 l x1++[l.getD (x1:Int).toNat (0:Int)]=a8 l x2/\List.set (List.take x1 (bI l)++List.replicate (l.length-x1) (0:Int)) (x1:Int).toNat (↑((a8 l x1).length):Int)=List.take x2 (bI l)++List.replicate (l.length-x2) (0:Int)) (aa (x1:Int) ((List.take x1 (bI l)++List.replicate (l.length-x1) (0:Int)).length)/\ae ((x1:Int)+(1:Int))/\∃x3:Nat,x3<=l.length/\l.length-x3<l.length-x1/\l=l/\(l.length:Int)=(l.length:Int)/\(x1:Int)+(1:Int)=(x3:Int)/\a8 l x1=a8 l x3/\List.set (List.take x1 (bI l)++List.replicate (l.length-x1) (0:Int)) (x1:Int).toNat (bm (l.getD (x1:Int).toNat (0:Int)) (a8 l x1) (0:Int))=List.take x3 (bI l)++List.replicate (l.length-x3) (0:Int))) (List.take x1 (bI l)++List.replicate (l.length-x1) (0:Int)=bI l/\True),by kernel_rfl,?_⟩
 simp only[aH]at ξ⊢;have hl:=EX l
 refine⟨by omega,⟨0,by omega,rfl,rfl,by simp⟩,fun i hi=>⟨fun h=>?_,fun h=>?_⟩⟩
 ·have sl:=tE l i
  have fs:=yc (bI l) 0 0 i (by omega)
  rw[hl]at fs;refine⟨by omega,by omega,fun h2=>?_,fun h2=>?_⟩
  ·have hm:l.getD i 0 ∉ a8 l i:=fun hm=>by have:=zX _ _ hm;omega
   have e2:a8 l (i+1)=a8 l i++[l.getD i 0]:=AB hm
   have e3:(bI l).getD i 0=((a8 l i).length:Int):=by rw[uQ l i (by omega),e2,tD _ _ _ hm,Int.zero_add]
   rw[e3]at fs;exact⟨by omega,by omega,by omega,i+1,by omega,by omega,by omega,e2.symm,fs⟩
  ·have hm:l.getD i 0∈a8 l i:=by
    by_cases hm:l.getD i 0∈a8 l i
    ·exact hm
    ·rw[Ld _ _ _ hm]at h2;omega
   have e2:a8 l (i+1)=a8 l i:=AA hm
   have e3:(bI l).getD i 0=bm (l.getD i 0) (a8 l i) 0:=by rw[uQ l i (by omega),e2]
   rw[e3]at fs;exact⟨by omega,by omega,i+1,by omega,by omega,by omega,e2.symm,fs⟩
 ·rw[AU (by omega),show l.length-i=0 by omega];simp
def E3:List AD->Option Post
 | [.c (.ints .i64 l)]=>some ⟨l.length<=1000,.c (.ints 2 .i64 (bI l)),[]⟩
 |_=>none
def Nn(l:Db):Nat->Option Ann
 |0=>U' fun i=>⟨⟨[(0,G' l),(3,M' 6),(4,M' 7),(5,D' i)],[(6,Q' (((bI l).take i))),(7,Q' (a8 l i))]⟩,i<=l.length,l.length-i⟩
 |_=>none
theorem Wc:Fits Tryz.prog 157 ⟨[],E3⟩:=by
 refine ffv (Γ:=af [(182,⟨[],p5⟩),(211,⟨[],pZ⟩)]) (aj Ef (aj Ed aG)) Tryz.func157 fun ds p h ξ=>?_
 unfold E3 at h;split at h<;>cases h
 rename_i l
 refine⟨ah,Nn l,(∃x0:Nat,x0<=l.length/\l=l/\(0:Int)=(x0:Int)/\[]=List.take x0 (bI l)/\[]=a8 l x0)/\∀x1:Nat,x1<=l.length->ab (decide ((x1:Int)<(l.length:Int))) (aa (x1:Int) l.length/\((a8 l x1).length<=(1099511627776:Nat)/\True)/\ab (!decide (l.getD (x1:Int).toNat (0:Int)∈a8 l x1)) (aa (x1:Int) l.length/\ar ((a8 l x1).length+[l.getD (x1:Int).toNat (0:Int)].length)/\aa (x1:Int) l.length/\((a8 l x1++[l.getD (x1:Int).toNat (0:Int)]).length<=(1099511627776:Nat)/\True)/\ar ((List.take x1 (bI l)).length+[bm (l.getD (x1:Int).toNat (0:Int)) (a8 l x1++[l.getD (x1:Int).toNat (0:Int)]) (0:Int)].length)/\ae ((x1:Int)+(1:Int))/\∃x2:Nat,x2<=l.length/\l.length-x2<l.length-x1/\l=l/\(x1:Int)+(1:Int)=(x2:Int)/\List.take x1 (bI l)++[bm (l.getD (x1:Int).toNat (0:Int)) (a8 l x1++[l.getD (x1:Int).toNat (0:Int)]) (0:Int)]=List.take x2 (bI l)/\a8 l x1++[l.getD (x1:Int).toNat (0:Int)]=a8 l x2) (aa (x1:Int) l.length/\((a8 l x1).length<=(1099511627776:Nat)/\True)/\ar ((List.take x1 (bI l)).length+[bm (l.getD (x1:Int).toNat (0:Int)) (a8 l x1) (0:Int)].length)/\ae ((x1:Int)+(1:Int))/\∃x3:Nat,x3<=l.length/\l.length-x3<l.length-x1/\l=l/\(x1:Int)+(1:Int)=(x3:Int)/\List.take x1 (bI l)++[bm (l.getD (x1:Int).toNat (0:Int)) (a8 l x1) (0:Int)]=List.take x3 (bI l)/\a8 l x1=a8 l x3)) (List.take x1 (bI l)=bI l/\True),by kernel_rfl,?_⟩
 simp only[aH]at ξ⊢;have hl:=EX l
 refine⟨⟨0,by omega,rfl,rfl,rfl⟩,fun i hi=>⟨fun h=>?_,fun h=>AU (by omega)⟩⟩
 have sl:=tE l i
 have ts:=eo (bI l) 0 i (by omega)
 refine⟨by omega,by omega,fun hm=>?_,fun hm=>?_⟩
 ·have e2:a8 l (i+1)=a8 l i++[l.getD i 0]:=AB hm
  have e3:(bI l).getD i 0=bm (l.getD i 0) (a8 l i++[l.getD i 0]) 0:=by rw[uQ l i (by omega),e2]
  rw[e3]at ts;exact⟨by omega,by omega,by omega,by omega,by omega,by omega,i+1,by omega,by omega,by omega,ts,e2.symm⟩
 ·have e2:a8 l (i+1)=a8 l i:=AA hm
  have e3:(bI l).getD i 0=bm (l.getD i 0) (a8 l i) 0:=by rw[uQ l i (by omega),e2]
  rw[e3]at ts;exact⟨by omega,by omega,by omega,by omega,i+1,by omega,by omega,by omega,ts,e2.symm⟩
def jf(t:Dc)(s:Int)(i j:Nat):Int:=((ag s 12).take j).foldl (fun m y=>mn m (en t i y.toNat)) (i:Int)
def E5:List AD->Option Post
 | [.c (.rows .i64 t),.c (.int .i64 s)]=>some ⟨cQ t s,.c (.ints 2 .i64 (av t s)),[]⟩
 |_=>none
def Np(t:Dc)(s:Int):Nat->Option Ann
 |0=>V' (fun i=>⟨⟨[(0,I' t),(1,D' s),(5,M' 11),(13,D' t.length),(14,D' i)],[(11,Q' (((bW t s).take i++List.replicate (t.length-i) 0)))]⟩,i<=t.length,t.length-i⟩) (fun i b_=>match b_ with|2=>U' fun j=>⟨⟨[(0,I' t),(1,D' s),(5,M' 11),(13,D' t.length),(14,D' i),(6,D' i),(22,M' 22),(23,D' ((((ag s 12).length:Int)))),(24,D' j)],[(11,Q' (((bW t s).take i++jf t s i j::List.replicate (t.length-(i+1)) 0))),(22,Q' (ag s 12))]⟩,j<=(ag s 12).length/\i<t.length,(ag s 12).length-j⟩|_=>none)
 |_=>none
def qh(t:Dc)(s:Int)(x0:Nat)(x1:Nat):=(List.take x0 (bW t s)++jf t s x0 x1::List.replicate (t.length-(x0+(1:Nat))) (0:Int))
theorem Wf:Fits Tryz.prog 109 ⟨[],E5⟩:=by
 refine ffv (Γ:=af [(153,⟨[],oe⟩),(154,⟨[],uS⟩)]) (aj td (aj Nm aG)) Tryz.func109 fun ds p h ξ=>?_
 unfold E5 at h;split at h<;>cases h
 rename_i t s
 refine⟨ah,Np t s,((0:Int)<=(t.length:Int)/\(t.length:Int)<=(t.length:Int)/\ar ((t.length:Int).toNat))/\(∃x0:Nat,x0<=t.length/\t=t/\s=s/\(t.length:Int)=(t.length:Int)/\(0:Int)=(x0:Int)/\List.replicate ((t.length:Int).toNat) (0:Int)=List.take x0 (bW t s)++List.replicate (t.length-x0) (0:Int))/\∀x1:Nat,x1<=t.length->ab (decide ((x1:Int)<(t.length:Int))) (aa (x1:Int) ((List.take x1 (bW t s)++List.replicate (t.length-x1) (0:Int)).length)/\(((0:Int)<=s/\s<(4096:Int))/\True)/\(∃x2:Nat,(x2<=(ag s (12:Nat)).length/\x1<t.length)/\t=t/\s=s/\(t.length:Int)=(t.length:Int)/\(x1:Int)=(x1:Int)/\(x1:Int)=(x1:Int)/\(↑((ag s (12:Nat)).length):Int)=(↑((ag s (12:Nat)).length):Int)/\(0:Int)=(x2:Int)/\List.set (List.take x1 (bW t s)++List.replicate (t.length-x1) (0:Int)) (x1:Int).toNat (x1:Int)=List.take x1 (bW t s)++jf t s x1 x2::List.replicate (t.length-(x1+(1:Nat))) (0:Int)/\ag s (12:Nat)=ag s (12:Nat))/\∀x3:Nat,x3<=(ag s (12:Nat)).length/\x1<t.length->ab (decide ((x3:Int)<(↑((ag s (12:Nat)).length):Int))) (aa (x3:Int) ((ag s (12:Nat)).length)/\aa (x1:Int) (qh t s x1 x3).length/\aa (x1:Int) t.length/\aa ((ag s (12:Nat)).getD (x3:Int).toNat (0:Int)) ((t.getD (x1:Int).toNat []).length)/\aa (x1:Int) (qh t s x1 x3).length/\ae ((x3:Int)+(1:Int))/\∃x4:Nat,(x4<=(ag s (12:Nat)).length/\x1<t.length)/\(ag s (12:Nat)).length-x4<(ag s (12:Nat)).length-x3/\t=t/\s=s/\(t.length:Int)=(t.length:Int)/\(x1:Int)=(x1:Int)/\(x1:Int)=(x1:Int)/\(↑((ag s (12:Nat)).length):Int)=(↑((ag s (12:Nat)).length):Int)/\(x3:Int)+(1:Int)=(x4:Int)/\List.set (qh t s x1 x3) (x1:Int).toNat (if(List.getD t (x1:Int).toNat []).getD (((ag s (12:Nat)).getD (x3:Int).toNat (0:Int)).toNat) (0:Int)<(List.take x1 (bW t s)++jf t s x1 x3::List.replicate (t.length-(x1+(1:Nat))) (0:Int)).getD (x1:Int).toNat (0:Int)then(List.getD t (x1:Int).toNat []).getD (((ag s (12:Nat)).getD (x3:Int).toNat (0:Int)).toNat) (0:Int)else(qh t s x1 x3).getD (x1:Int).toNat (0:Int))=List.take x1 (bW t s)++jf t s x1 x4::List.replicate (t.length-(x1+(1:Nat))) (0:Int)/\ag s (12:Nat)=ag s (12:Nat)) (ae ((x1:Int)+(1:Int))/\∃x5:Nat,x5<=t.length/\t.length-x5<t.length-x1/\t=t/\s=s/\(t.length:Int)=(t.length:Int)/\(x1:Int)+(1:Int)=(x5:Int)/\List.take x1 (bW t s)++jf t s x1 x3::List.replicate (t.length-(x1+(1:Nat))) (0:Int)=List.take x5 (bW t s)++List.replicate (t.length-x5) (0:Int))) (((List.take x1 (bW t s)++List.replicate (t.length-x1) (0:Int)).length<=(1000:Nat)/\True)/\bI (List.take x1 (bW t s)++List.replicate (t.length-x1) (0:Int))=av t s/\True),by kernel_rfl,?_⟩
 simp only[qh,aH]at ξ⊢;have S:=pP ξ
 obtain⟨n1,n2,ht⟩:=bT ξ.1;have E:=tG ξ
 have eL:=pK s 12
 have hl:=EY t s
 refine⟨by omega,⟨0,by omega,rfl,by simp⟩,fun i hi=>⟨fun h=>?_,fun h=>?_⟩⟩
 ·have tl:((bW t s).take i).length=i:=by rw[AS];omega
  have er:List.replicate (t.length-i) (0:Int)=0::List.replicate (t.length-(i+1)) 0:=by rw[show t.length-i=(t.length-(i+1))+1 by omega];rfl
  refine⟨by omega,by omega,⟨0,by omega,rfl,by rw[er,pA _ _ _ _ _ tl];rfl⟩,fun j ⟨hj,_⟩=>⟨fun h3=>?_,fun h3=>?_⟩⟩
  ·have B:=E j (by omega)
   have r:=ht i (by omega)
   have e1:jf t s i (j+1)=mn (jf t s i j) (en t i ((ag s 12).getD j 0).toNat):=by
    rw[jf,<-eo _ 0 j (by omega),List.foldl_append];rfl
   rw[yk _ _ _ _ _ tl,pA _ _ _ _ _ tl];exact⟨by omega,by omega,by omega,by omega,by omega,by omega,j+1,by omega,by omega,by omega,by rw[e1];rfl⟩
  ·have e1:jf t s i j=(bW t s).getD i 0:=by
    have n12:=K9 (t:=t) ξ.2.2 i (12-t.length)
    rw[show t.length+(12-t.length)=12 by omega]at n12
    rw[jf,AU (by omega),zW,n12,bW,cj _ _ _ (by omega)]
   refine⟨by omega,i+1,by omega,by omega,by omega,?_⟩
   rw[e1,<-eo _ 0 i (by omega),Ap];rfl
 ·rw[AU (by omega),show t.length-i=0 by omega,List.replicate_zero,Af]
  exact⟨by omega,rfl⟩
def E7:List AD->Option Post
 | [.c (.rows .i64 t),.c (.int .i64 s)]=>some ⟨cQ t s,.c (.ints 2 .i64 (av t s)),[]⟩
 |_=>none
def Nr(t:Dc)(s:Int):Nat->Option Ann
 |0=>V' (fun i=>⟨⟨[(0,I' t),(1,D' s),(5,M' 9),(6,D' i)],[(9,Q' (((bW t s).take i)))]⟩,i<=t.length,t.length-i⟩) (fun i b_=>match b_ with|2=>U' fun j=>⟨⟨[(0,I' t),(1,D' s),(5,M' 9),(6,D' i),(7,D' (dC t s i j)),(8,D' j)],[(9,Q' (((bW t s).take i)))]⟩,j<=t.length/\i<t.length,t.length-j⟩|_=>none)
 |_=>none
theorem Wi:Fits Tryz.prog 112 ⟨[],E7⟩:=by
 refine ffv (Γ:=af [(157,⟨[],E3⟩)]) (aj Wc aG) Tryz.func112 fun ds p h ξ=>?_
 unfold E7 at h;split at h<;>cases h
 rename_i t s
 refine⟨ah,Nr t s,(∃x0:Nat,x0<=t.length/\t=t/\s=s/\(0:Int)=(x0:Int)/\[]=List.take x0 (bW t s))/\∀x1:Nat,x1<=t.length->ab (decide ((x1:Int)<(t.length:Int))) ((∃x2:Nat,(x2<=t.length/\x1<t.length)/\t=t/\s=s/\(x1:Int)=(x1:Int)/\(x1:Int)=dC t s x1 x2/\(0:Int)=(x2:Int)/\List.take x1 (bW t s)=List.take x1 (bW t s))/\∀x3:Nat,x3<=t.length/\x1<t.length->ab (decide ((x3:Int)<(t.length:Int))) (((0:Int)<=IntKind.wrap IntKind.u64 (x3:Int)/\IntKind.wrap IntKind.u64 (x3:Int)<=(62:Int))/\(IntKind.i64=IntKind.i64/\((0:Int)<=s / (2:Int) ^ (IntKind.wrap IntKind.u64 (x3:Int)).toNat/\s / (2:Int) ^ (IntKind.wrap IntKind.u64 (x3:Int)).toNat<=(9223372036854775807:Int))/\(0:Int)<=(1:Int)/\(1:Int)<=(9223372036854775807:Int))/\ab ((↑((s / (2:Int) ^ (IntKind.wrap IntKind.u64 (x3:Int)).toNat).toNat &&& (1:Int).toNat):Int) == (1:Int)) (aa (x1:Int) t.length/\aa (x3:Int) ((t.getD (x1:Int).toNat []).length)/\ae ((x3:Int)+(1:Int))/\∃x4:Nat,(x4<=t.length/\x1<t.length)/\t.length-x4<t.length-x3/\t=t/\s=s/\(x1:Int)=(x1:Int)/\(if(List.getD t (x1:Int).toNat []).getD (x3:Int).toNat (0:Int)<dC t s x1 x3 then(List.getD t (x1:Int).toNat []).getD (x3:Int).toNat (0:Int)else dC t s x1 x3)=dC t s x1 x4/\(x3:Int)+(1:Int)=(x4:Int)/\List.take x1 (bW t s)=List.take x1 (bW t s)) (ae ((x3:Int)+(1:Int))/\∃x5:Nat,(x5<=t.length/\x1<t.length)/\t.length-x5<t.length-x3/\t=t/\s=s/\(x1:Int)=(x1:Int)/\dC t s x1 x3=dC t s x1 x5/\(x3:Int)+(1:Int)=(x5:Int)/\List.take x1 (bW t s)=List.take x1 (bW t s))) (ar ((List.take x1 (bW t s)).length+[dC t s x1 x3].length)/\ae ((x1:Int)+(1:Int))/\∃x6:Nat,x6<=t.length/\t.length-x6<t.length-x1/\t=t/\s=s/\(x1:Int)+(1:Int)=(x6:Int)/\List.take x1 (bW t s)++[dC t s x1 x3]=List.take x6 (bW t s))) (((List.take x1 (bW t s)).length<=(1000:Nat)/\True)/\bI (List.take x1 (bW t s))=av t s/\True),by kernel_rfl,?_⟩
 simp only[aH]at ξ⊢;have S:=pP ξ
 obtain⟨n1,n2,ht⟩:=bT ξ.1;have hl:=EY t s
 refine⟨⟨0,by omega,rfl,rfl⟩,fun i hi=>⟨fun h=>⟨⟨0,by omega,rfl,rfl⟩,fun j ⟨hj,_⟩=>⟨fun h3=>?_,fun h3=>?_⟩⟩,fun h=>?_⟩⟩
 ·have r:=ht i (by omega)
  have w2:IntKind.u64.wrap (j:Int)=(j:Int):=KM (by omega)
  simp only[w2,AP,KK S.1,TF S.1];refine⟨by omega,⟨KN S.1 _ (by omega),by omega,by omega⟩,fun b=>⟨by omega,by omega,by omega,j+1,by omega,by omega,?_,by omega⟩,fun b=>⟨by omega,j+1,by omega,by omega,?_,by omega⟩⟩
  ·rw[dC,AA b];rfl
  ·rw[dC,AB (by rw[b];decide)]
 ·refine⟨by omega,by omega,i+1,by omega,by omega,by omega,?_⟩
  rw[<-eo _ 0 i (by omega),bW,cj _ _ _ (by omega),show j=t.length by omega]
 ·rw[AU (by omega)]
  exact⟨by omega,rfl⟩
def uX:List AD->Option Post
 | [.c (.ints .i64 cl)]=>some ⟨cl.length<=1000,.c (.ints 2 .i64 (aV cl cl.length)),[]⟩
 |_=>none
def Nt(cl:Db):Nat->Option Ann
 |0=>U' fun i=>⟨⟨[(3,M' 3),(6,G' cl),(7,D' cl.length),(8,D' i)],[(3,Q' (aV cl i))]⟩,i<=cl.length,cl.length-i⟩
 |_=>none
theorem Nv:Fits Tryz.prog 120 ⟨[],uX⟩:=by
 refine ffv (Γ:=af []) aG Tryz.func120 fun ds p h ξ=>?_
 unfold uX at h;split at h<;>cases h
 rename_i cl
 refine⟨ah,Nt cl,(∃x0:Nat,x0<=cl.length/\cl=cl/\(cl.length:Int)=(cl.length:Int)/\(0:Int)=(x0:Int)/\aV cl x0=[])/\∀x1:Nat,x1<=cl.length->ab (decide ((x1:Int)<(cl.length:Int))) (aa (x1:Int) cl.length/\ab (cl.getD (x1:Int).toNat (0:Int) == (↑((aV cl x1).length):Int)) (ar ((aV cl x1).length+[(x1:Int)].length)/\ae ((x1:Int)+(1:Int))/\∃x2:Nat,x2<=cl.length/\cl.length-x2<cl.length-x1/\cl=cl/\(cl.length:Int)=(cl.length:Int)/\(x1:Int)+(1:Int)=(x2:Int)/\aV cl x1++[(x1:Int)]=aV cl x2) (ae ((x1:Int)+(1:Int))/\∃x3:Nat,x3<=cl.length/\cl.length-x3<cl.length-x1/\cl=cl/\(cl.length:Int)=(cl.length:Int)/\(x1:Int)+(1:Int)=(x3:Int)/\aV cl x1=aV cl x3)) (aV cl x1=aV cl cl.length/\True),by kernel_rfl,?_⟩
 simp only[aH]at ξ⊢;refine⟨⟨0,by omega,rfl,rfl⟩,fun i hi=>⟨fun h=>?_,fun h=>by rw[show i=cl.length by omega]⟩⟩
 have fl:=kA cl i
 exact⟨by omega,fun h2=>⟨by omega,by omega,i+1,by omega,by omega,by omega,by rw[aV,AA h2]⟩,fun h2=>⟨by omega,i+1,by omega,by omega,by omega,by rw[aV,AB h2]⟩⟩
def qi:List AD->Option Post
 | [.c (.int .i64 x),.c (.int .i64 y),.box [.ints .i64 cl],.box [.rows .i64 t],.box [.ints .i64 f]]=>some ⟨aM t=true/\cl.length=t.length/\f=aV cl cl.length/\0<=x/\x<(f.length:Int)/\0<=y/\y<(f.length:Int),.c (.int .i64 (cl.getD (en t (f.getD x.toNat 0).toNat (f.getD y.toNat 0).toNat).toNat 0)),[]⟩
 |_=>none
theorem Wn:Fits Tryz.prog 155 ⟨[],qi⟩:=by
 refine ffv (Γ:=af []) aG Tryz.func155 fun ds p h ξ=>?_
 unfold qi at h;split at h<;>cases h
 rename_i x y cl t f
 refine⟨ah,ak,aa x f.length/\aa (f.getD x.toNat (0:Int)) t.length/\aa y f.length/\aa (f.getD y.toNat (0:Int)) ((t.getD ((f.getD x.toNat (0:Int)).toNat) []).length)/\aa ((List.getD t ((List.getD f x.toNat (0:Int)).toNat) []).getD ((f.getD y.toNat (0:Int)).toNat) (0:Int)) cl.length/\cl.getD (((List.getD t ((List.getD f x.toNat (0:Int)).toNat) []).getD ((f.getD y.toNat (0:Int)).toNat) (0:Int)).toNat) (0:Int)=cl.getD ((en t ((f.getD x.toNat (0:Int)).toNat) ((f.getD y.toNat (0:Int)).toNat)).toNat) (0:Int)/\True,by kernel_rfl,?_⟩
 simp only[aH]at ξ⊢;obtain⟨h1,h2,rfl,x1,x2,y1,y2⟩:=ξ;obtain⟨n1,n2,ht⟩:=bT h1;have fx:=mz cl cl.length _ (cU (aV cl cl.length) 0 x.toNat (by omega))
 have fy:=mz cl cl.length _ (cU (aV cl cl.length) 0 y.toNat (by omega))
 have r:=ht ((aV cl cl.length).getD x.toNat 0).toNat (by omega)
 have v:=r.2 ((aV cl cl.length).getD y.toNat 0).toNat (by omega)
 exact⟨by omega,by omega,by omega,by omega,by omega,rfl⟩
def Fd:List AD->Option Post
 | [.c (.rows .i64 t),.c (.ints .i64 cl)]=>some ⟨aM t=true/\cl.length=t.length,.c (.rows 62 2 .i64 (quo t cl)),[]⟩
 |_=>none
theorem Wq:Fits Tryz.prog 110 ⟨[],Fd⟩:=by
 refine ffv (Γ:=af [(120,⟨[],uX⟩),(124,⟨[],pB⟩),(155,⟨[],qi⟩)]) (aj Nv (aj yx (aj Wn aG))) Tryz.func110 fun ds p h ξ=>?_
 unfold Fd at h;split at h<;>cases h
 rename_i t cl
 refine⟨ah,ak,(cl.length<=(1000:Nat)/\True)/\(((0:Int)<=(↑((aV cl cl.length).length):Int)/\(↑((aV cl cl.length).length):Int)<=(144:Int)/\∀(x y:Int),(0:Int)<=x->x<(↑((aV cl cl.length).length):Int)->(0:Int)<=y->y<(↑((aV cl cl.length).length):Int)->jU (qi [AD.c (FC.int IntKind.i64 x),AD.c (FC.int IntKind.i64 y),AD.box [FC.ints IntKind.i64 cl],AD.box [FC.rows IntKind.i64 t],AD.box [FC.ints IntKind.i64 (aV cl cl.length)]]))/\True)/\(bq ((↑((aV cl cl.length).length):Int).toNat) fun(x y:Nat)=>kK (qi [AD.c (FC.int IntKind.i64 (x:Int)),AD.c (FC.int IntKind.i64 (y:Int)),AD.box [FC.ints IntKind.i64 cl],AD.box [FC.rows IntKind.i64 t],AD.box [FC.ints IntKind.i64 (aV cl cl.length)]]))=quo t cl/\True,by kernel_rfl,?_⟩
 simp only[aH]at ξ⊢;obtain⟨h1,h2⟩:=ξ;obtain⟨n1,n2,ht⟩:=bT h1;have fl:=kA cl cl.length
 exact⟨by omega,⟨by omega,by omega,fun x y a1 a2 a3 a4=>⟨h1,h2,rfl,a1,a2,a3,a4⟩⟩,iZ fun x y hx hy=>rfl⟩
def eW(t:Dc)(cl:Db)(x j:Nat):Db:=(aV cl j).map fun y=>cl.getD (en t x y.toNat).toNat 0
def dU(t:Dc)(cl:Db)(i:Nat):Dc:=(aV cl i).map fun x=>eW t cl x.toNat cl.length
theorem Wr(t:Dc)(cl:Db):dU t cl cl.length=quo t cl:=by
 unfold dU quo bq;rw[<-w9 (aV cl cl.length) 0 (fun x=>eW t cl x.toNat cl.length)]
 congr 1
 funext x
 unfold eW ap;exact(w9 (aV cl cl.length) 0 (fun y=>cl.getD (en t ((aV cl cl.length).getD x 0).toNat y.toNat).toNat 0)).symm
def Fg:List AD->Option Post
 | [.c (.rows .i64 t),.c (.ints .i64 cl)]=>some ⟨aM t=true/\cl.length=t.length/\pR cl,.c (.rows 62 2 .i64 (quo t cl)),[]⟩
 |_=>none
def Nz(t:Dc)(cl:Db):Nat->Option Ann
 |0=>V' (fun i=>⟨⟨[(0,I' t),(1,G' cl),(5,M' 9),(6,D' i)],[(9,O' (dU t cl i))]⟩,i<=t.length,t.length-i⟩) (fun i b_=>match b_ with|2=>U' fun j=>⟨⟨[(0,I' t),(1,G' cl),(5,M' 9),(6,D' i),(7,M' 23),(8,D' j)],[(9,O' (dU t cl i)),(23,Q' (eW t cl i j))]⟩,j<=t.length/\i<t.length/\cl.getD i 0=((aV cl i).length:Int),t.length-j⟩|_=>none)
 |_=>none
theorem Wu:Fits Tryz.prog 113 ⟨[],Fg⟩:=by
 refine ffv (Γ:=af []) aG Tryz.func113 fun ds p h ξ=>?_
 unfold Fg at h;split at h<;>cases h
 rename_i t cl
 refine⟨ah,Nz t cl,(∃x0:Nat,x0<=t.length/\t=t/\cl=cl/\(0:Int)=(x0:Int)/\([]:Dc)=dU t cl x0)/\∀x1:Nat,x1<=t.length->ab (decide ((x1:Int)<(t.length:Int))) (aa (x1:Int) cl.length/\ab (decide (cl.getD (x1:Int).toNat (0:Int)<(↑((dU t cl x1).length):Int))) (ae ((x1:Int)+(1:Int))/\∃x2:Nat,x2<=t.length/\t.length-x2<t.length-x1/\t=t/\cl=cl/\(x1:Int)+(1:Int)=(x2:Int)/\dU t cl x1=dU t cl x2) ((∃x3:Nat,(x3<=t.length/\x1<t.length/\cl.getD x1 (0:Int)=(↑((aV cl x1).length):Int))/\t=t/\cl=cl/\(x1:Int)=(x1:Int)/\(0:Int)=(x3:Int)/\dU t cl x1=dU t cl x1/\[]=eW t cl x1 x3)/\∀x4:Nat,x4<=t.length/\x1<t.length/\cl.getD x1 (0:Int)=(↑((aV cl x1).length):Int)->ab (decide ((x4:Int)<(t.length:Int))) (aa (x4:Int) cl.length/\ab (cl.getD (x4:Int).toNat (0:Int) == (↑((eW t cl x1 x4).length):Int)) (aa (x1:Int) t.length/\aa (x4:Int) ((t.getD (x1:Int).toNat []).length)/\aa ((List.getD t (x1:Int).toNat []).getD (x4:Int).toNat (0:Int)) cl.length/\ar ((eW t cl x1 x4).length+[cl.getD (((List.getD t (x1:Int).toNat []).getD (x4:Int).toNat (0:Int)).toNat) (0:Int)].length)/\ae ((x4:Int)+(1:Int))/\∃x5:Nat,(x5<=t.length/\x1<t.length/\cl.getD x1 (0:Int)=(↑((aV cl x1).length):Int))/\t.length-x5<t.length-x4/\t=t/\cl=cl/\(x1:Int)=(x1:Int)/\(x4:Int)+(1:Int)=(x5:Int)/\dU t cl x1=dU t cl x1/\eW t cl x1 x4++[cl.getD (((List.getD t (x1:Int).toNat []).getD (x4:Int).toNat (0:Int)).toNat) (0:Int)]=eW t cl x1 x5) (ae ((x4:Int)+(1:Int))/\∃x6:Nat,(x6<=t.length/\x1<t.length/\cl.getD x1 (0:Int)=(↑((aV cl x1).length):Int))/\t.length-x6<t.length-x4/\t=t/\cl=cl/\(x1:Int)=(x1:Int)/\(x4:Int)+(1:Int)=(x6:Int)/\dU t cl x1=dU t cl x1/\eW t cl x1 x4=eW t cl x1 x6)) (ar ((dU t cl x1).length+(eW t cl x1 x4::([]:Dc)).length)/\ae ((x1:Int)+(1:Int))/\∃x7:Nat,x7<=t.length/\t.length-x7<t.length-x1/\t=t/\cl=cl/\(x1:Int)+(1:Int)=(x7:Int)/\dU t cl x1++eW t cl x1 x4::([]:Dc)=dU t cl x7))) (dU t cl x1=quo t cl/\True),by kernel_rfl,?_⟩
 simp only[aH]at ξ⊢;obtain⟨h1,h2,h3⟩:=ξ;obtain⟨n1,n2,ht⟩:=bT h1;have ql:∀i,(dU t cl i).length=(aV cl i).length:=fun i=>by simp[dU]
 have jl:∀x j,(eW t cl x j).length=(aV cl j).length:=fun x j=>by simp[eW]
 refine⟨⟨0,by omega,rfl,rfl⟩,fun i hi=>⟨fun h=>?_,fun h=>?_⟩⟩
 ·have nm:=h3 i (by omega)
  have fl:=kA cl i
  rw[ql];refine⟨by omega,fun h4=>⟨by omega,i+1,by omega,by omega,by omega,?_⟩,fun h4=>⟨⟨0,⟨by omega,by omega,by omega⟩,rfl,rfl⟩,fun j ⟨hj,_,hc⟩=>⟨fun h5=>?_,fun h5=>?_⟩⟩⟩
  ·rw[dU,dU,aV,AB (by omega)]
  ·have r:=ht i (by omega)
   have v:=r.2 j (by omega)
   have fj:=kA cl j
   rw[jl];refine⟨by omega,fun h6=>⟨by omega,by omega,by omega,by omega,by omega,j+1,⟨by omega,by omega,hc⟩,by omega,by omega,?_⟩,fun h6=>⟨by omega,j+1,⟨by omega,by omega,hc⟩,by omega,by omega,?_⟩⟩
   ·rw[eW,eW,aV,AA h6,BZ];rfl
   ·rw[eW,eW,aV,AB h6]
  ·refine⟨by omega,by omega,i+1,by omega,by omega,by omega,?_⟩
   rw[show j=cl.length by omega]
   rw[dU,dU,aV,AA hc,BZ];rfl
 ·rw[show i=cl.length by omega]
  exact Wr t cl
end Go.Sx
