/- Ids -/
import Derived.Test.YtkmldclpaniclaaGreatGrp
import Derived.Test.YtkmldclpaniclaaGreatBrcC
set_option linter.unusedSimpArgs false
set_option linter.unusedVariables false
set_option linter.defProp false
open Go Go.Proofs
namespace Go.Sx
def cQ(t:Dc)(s:Int):Prop:=aM t=true/\0<=s/\s.toNat<2 ^ t.length
theorem pO{n:Nat}(h:n<=12):2 ^ n<=4096:=Bh (n:=2) (by omega) h
theorem pP{t:Dc}{s:Int}(h:cQ t s):0<=s/\s<4096:=by
 have:=pO (bT h.1).2.1
 have:=h.2.2
 have:=h.2.1
 omega
theorem tz{s:Int}{n:Nat}(hs:s.toNat<2 ^ n)(hn:n<=12)(f:Int->Bool):(ag s 12).all f=(List.range n).all fun x=>!bitB s x||f (x:Int):=by
 have e:=sY hs (12-n)
 rw[show n+(12-n)=12 by omega]at e
 rw[e,TG]
theorem Ua(n m:Nat)(f:Nat->Nat->Bool):((List.range n).all fun x=>(List.range m).all fun y=>f x y)=(List.range m).all fun y=>(List.range n).all fun x=>f x y:=by
 rw[Bf];simp only[AM];exact⟨fun h y hy x hx=>h x hx y hy,fun h x hx y hy=>h y hy x hx⟩
theorem K8(l:List Nat)(b:Bool)(f:Nat->Bool):(!b||l.all f)=l.all fun x=>!b||f x:=by
 cases b
 ·rw[Bf];simp
 ·simp
def tB(t:Dc)(s:Int)(x y:Nat):Bool:=!(bitB s x&&bitB s y)||bitB s (en t x y).toNat
def zT(t:Dc)(s:Int)(x:Nat):Bool:=(List.range t.length).all (tB t s x)
def iF(t:Dc)(s:Int):Bool:=(List.range t.length).all (zT t s)
def eV(t:Dc)(s:Int):Bool:=bitB s 0&&iF t s
def jH(t:Dc)(s:Int)(x:Int):Bool:=(ag s 12).all fun y=>bitB s (en t x.toNat y.toNat).toNat
theorem Ub{t:Dc}{s:Int}(h:cQ t s):(ag s 12).all (jH t s)=iF t s:=by
 have hn:=(bT h.1).2.1
 rw[tz h.2.2 hn,iF]
 congr 1
 funext x
 rw[jH,tz h.2.2 hn,zT,K8]
 congr 1
 funext y
 simp only[tB,AP];cases bitB s x<;>cases bitB s y<;>simp
def tC(l:Dc)(s:Int)(y x:Nat):Bool:=!bitB s x||bitB s (en l y x).toNat
def zU(n:Nat)(l:Dc)(s:Int)(y:Nat):Bool:=(List.range n).all (tC l s y)
def fp(n:Nat)(l:Dc)(s:Int):Bool:=(List.range n).all (zU n l s)
def jI(l:Dc)(s:Int)(x:Int):Bool:=l.all fun r=>bitB s (r.getD x.toNat 0).toNat
theorem Uc{t l:Dc}{s:Int}(h:cQ t s)(hl:l.length=t.length):(ag s 12).all (jI l s)=fp t.length l s:=by
 have hn:=(bT h.1).2.1
 rw[tz h.2.2 hn,fp];have:zU t.length l s=fun y=>(List.range t.length).all fun x=>tC l s y x:=rfl
 rw[this,Ua]
 congr 1
 funext x
 rw[jI,og,hl,K8]
 congr 1
def pQ(t:Dc)(s:Int)(x y:Nat):Bool:=!bitB s y||bitB s (en t (en t x y).toNat (bk t x).toNat).toNat
def zV(t:Dc)(s:Int)(x:Nat):Bool:=(List.range t.length).all (pQ t s x)
def fe(t:Dc)(s:Int):Bool:=(List.range t.length).all (zV t s)
def ly(t:Dc)(s:Int)(x:Nat):Bool:=(ag s 12).all fun y=>bitB s (en t (en t x y.toNat).toNat (bk t x).toNat).toNat
theorem Ud{t:Dc}{s:Int}(h:cQ t s):(List.range t.length).all (ly t s)=fe t s:=by
 have hn:=(bT h.1).2.1
 rw[fe]
 congr 1
 funext x
 rw[ly,tz h.2.2 hn,zV]
 congr 1
def gE(a c:Dc)(s:Int):Bool:=eV a s&&fp a.length (aS a c) s&&fe a s&&fe c s
def lz(p:Int->Bool)(k:Nat):Db:=((List.range k).filter fun i:Nat=>p (2*(i:Int)+1)).map fun i:Nat=>2*(i:Int)+1
def mn(a b:Int):Int:=if b<a then b else a
def dC(t:Dc)(s:Int)(x:Nat):Nat->Int
 |0=>(x:Int)
 |k+1=>if bitB s k=true then mn (dC t s x k) (en t x k)else dC t s x k
theorem zW(t:Dc)(s:Int)(x:Nat):∀k,(ag s k).foldl (fun m y=>mn m (en t x y.toNat)) (x:Int)=dC t s x k
 |0=>rfl
 |k+1=>by
  rw[sX,dC];split
  ·rw[List.foldl_append,zW t s x k];rfl
  ·exact zW t s x k
theorem K9{t:Dc}{s:Int}{n:Nat}(h:s.toNat<2 ^ n)(x:Nat):∀j,dC t s x (n+j)=dC t s x n
 |0=>rfl
 |j+1=>by rw[<-A0,dC,KP h (by omega),AB (by decide),K9 h x j]
def bW(t:Dc)(s:Int):Db:=ap t.length fun x=>dC t s x t.length
def a8(l:Db):Nat->Db
 |0=>[]
 |i+1=>if l.getD i 0∈a8 l i then a8 l i else a8 l i++[l.getD i 0]
def bI(l:Db):Db:=ap l.length fun i=>bm (l.getD i 0) (a8 l (i+1)) 0
theorem Lc(x:Int):∀(l m:Db) (k:Int),x∈l->bm x (l++m) k=bm x l k
 | [],m,k,h=>by simp at h
 |y::l,m,k,h=>by
  simp only[BT,bm];split
  ·rfl
  ·rename_i hy
   rcases AH.1 h with e|e
   ·exact absurd e.symm hy
   ·exact Lc x l m (k+1) e
theorem tD(x:Int):∀(l:Db) (k:Int),x ∉ l->bm x (l++[x]) k=k+(l.length:Int)
 | [],k,_=>by simp[bm]
 |y::l,k,h=>by
  simp only[BT,bm,AR];rw[AB (fun e=>h (by rw[e];simp)),tD x l (k+1) (fun e=>h (by simp[e]))]
  omega
theorem Ld(x:Int):∀(l:Db) (k:Int),x ∉ l->bm x l k=-1
 | [],_,_=>rfl
 |y::l,k,h=>by
  simp only[bm];rw[AB (fun e=>h (by rw[e];simp)),Ld x l (k+1) (fun e=>h (by simp[e]))]
theorem zX(x:Int)(l:Db)(h:x∈l):0<=bm x l 0:=by
 have:=ud x l 0 (by omega)
 rw[AY h]at this;exact BS this
theorem tE(l:Db):∀i,(a8 l i).length<=i
 |0=>by simp[a8]
 |i+1=>by
  have:=tE l i
  simp only[a8];split
  ·omega
  ·simp;omega
theorem zY(l:Db)(i:Nat):l.getD i 0∈a8 l (i+1):=by
 simp only[a8];split
 ·assumption
 ·simp
theorem Ue(l:Db)(i:Nat):0<=bm (l.getD i 0) (a8 l (i+1)) 0/\bm (l.getD i 0) (a8 l (i+1)) 0<((a8 l (i+1)).length:Int):=by
 have:=pL (l.getD i 0) (a8 l (i+1)) 0 (by omega)
 exact⟨zX _ _ (zY l i),by omega⟩
def aV(cl:Db):Nat->Db
 |0=>[]
 |i+1=>if cl.getD i 0=((aV cl i).length:Int)then aV cl i++[(i:Int)]else aV cl i
theorem kA(cl:Db):∀i,(aV cl i).length<=i
 |0=>by simp[aV]
 |i+1=>by
  have:=kA cl i
  simp only[aV];split
  ·simp;omega
  ·omega
theorem mz(cl:Db):∀i,∀x∈aV cl i,0<=x/\x<(i:Int)
 |0=>by simp[aV]
 |i+1=>fun x hx=>by
  simp only[aV]at hx;split at hx
  ·rcases AL.1 hx with h|h
   ·have:=mz cl i x h;omega
   ·simp at h;omega
  ·have:=mz cl i x hx;omega
def pR(cl:Db):Prop:=∀i,i<cl.length->0<=cl.getD i 0/\cl.getD i 0<=((aV cl i).length:Int)
theorem tF(l:Db):∀i,i<=l.length->(aV (bI l) i).length=(a8 l i).length
 |0,_=>rfl
 |i+1,h=>by
  have ih:=tF l i (by omega)
  have e:(bI l).getD i 0=bm (l.getD i 0) (a8 l (i+1)) 0:=cj _ _ _ (by omega)
  simp only[aV];rw[e,ih];by_cases hm:l.getD i 0∈a8 l i
  ·have e2:a8 l (i+1)=a8 l i:=AA hm
   rw[e2];have:=pL (l.getD i 0) (a8 l i) 0 (by omega)
   rw[AB (by omega),ih]
  ·have e2:a8 l (i+1)=a8 l i++[l.getD i 0]:=AB hm
   rw[e2,tD _ _ _ hm,AA (by omega)]
   simp[ih]
theorem Uf(l:Db):pR (bI l):=fun i hi=>by
 have hi:i<l.length:=by rwa[bI,bK]at hi
 have e:(bI l).getD i 0=bm (l.getD i 0) (a8 l (i+1)) 0:=cj _ _ _ hi
 rw[e,tF l i (by omega)]
 have a:=Ue l i
 refine⟨a.1,?_⟩
 by_cases hm:l.getD i 0∈a8 l i
 ·have e2:a8 l (i+1)=a8 l i:=AA hm
  rw[e2]at a⊢;omega
 ·have e2:a8 l (i+1)=a8 l i++[l.getD i 0]:=AB hm
  rw[e2,tD _ _ _ hm];omega
def av(t:Dc)(s:Int):Db:=bI (bW t s)
theorem jJ(t:Dc)(s:Int):(av t s).length=t.length:=by simp[av,bI,bW,bK]
def quo(t:Dc)(cl:Db):Dc :=
 bq (aV cl cl.length).length fun x y=>cl.getD (en t ((aV cl cl.length).getD x 0).toNat ((aV cl cl.length).getD y 0).toNat).toNat 0
theorem tG{t:Dc}{s:Int}(h:cQ t s):∀i,i<(ag s 12).length->0<=(ag s 12).getD i 0/\(ag s 12).getD i 0<=(t.length:Int)-1:=fun i hi=>by
 have hn:=(bT h.1).2.1
 have e:=sY h.2.2 (12-t.length)
 rw[show t.length+(12-t.length)=12 by omega]at e
 have:=TH s t.length ((ag s 12).getD i 0) (by rw[<-e];exact cU _ _ _ hi)
 omega
def zZ:List AD->Option Post
 | [.c (.rows .i64 t),.c (.int .i64 s)]=>some ⟨cQ t s,.c (.bool (eV t s)),[]⟩
 |_=>none
def Le(t:Dc)(s:Int):Nat->Option Ann
 |0=>V' (fun i=>⟨⟨[(0,I' t),(1,D' s),(5,M' 14),(15,M' 14),(16,D' ((((ag s 12).length:Int)))),(17,D' i)],[(14,Q' (ag s 12))]⟩,i<=(ag s 12).length/\bitB s 0=true/\iF t s=((ag s 12).drop i).all (jH t s),(ag s 12).length-i⟩) (fun i b_=>match b_ with|2=>U' fun j=>⟨⟨[(0,I' t),(1,D' s),(5,M' 14),(15,M' 14),(16,D' ((((ag s 12).length:Int)))),(17,D' i),(7,D' (((ag s 12).getD i 0))),(21,M' 14),(22,D' ((((ag s 12).length:Int)))),(23,D' j)],[(14,Q' (ag s 12))]⟩,(j<=(ag s 12).length/\i<(ag s 12).length/\iF t s=(((ag s 12).drop j).all (fun y=>bitB s (en t ((ag s 12).getD i 0).toNat y.toNat).toNat)&&((ag s 12).drop (i+1)).all (jH t s))),(ag s 12).length-j⟩|_=>none)
 |_=>none
theorem Ui:Fits Tryz.prog 165 ⟨[],zZ⟩:=by
 refine ffv (Γ:=af [(166,⟨[],oc⟩),(153,⟨[],oe⟩)]) (aj s8 (aj td aG)) Tryz.func165 fun ds p h ξ=>?_
 unfold zZ at h;split at h<;>cases h
 rename_i t s
 refine⟨ah,Le t s,(((0:Int)<=s/\s<=(9223372036854775807:Int)/\(0:Int)<=(0:Int)/\(0:Int)<=(62:Int))/\True)/\ab (!bitB s (0:Int).toNat) (false=eV t s/\True) ((((0:Int)<=s/\s<(4096:Int))/\True)/\(∃x0:Nat,(x0<=(ag s (12:Nat)).length/\bitB s (0:Nat)=true/\iF t s=List.all (List.drop x0 (ag s (12:Nat))) (jH t s))/\t=t/\s=s/\(↑((ag s (12:Nat)).length):Int)=(↑((ag s (12:Nat)).length):Int)/\(0:Int)=(x0:Int)/\ag s (12:Nat)=ag s (12:Nat))/\∀x1:Nat,x1<=(ag s (12:Nat)).length/\bitB s (0:Nat)=true/\iF t s=List.all (List.drop x1 (ag s (12:Nat))) (jH t s)->ab (decide ((x1:Int)<(↑((ag s (12:Nat)).length):Int))) (aa (x1:Int) ((ag s (12:Nat)).length)/\(∃x2:Nat,(x2<=(ag s (12:Nat)).length/\x1<(ag s (12:Nat)).length/\iF t s=((List.all (List.drop x2 (ag s (12:Nat))) fun(y:Int)=>bitB s ((en t (((ag s (12:Nat)).getD x1 (0:Int)).toNat) y.toNat).toNat))&&List.all (List.drop (x1+(1:Nat)) (ag s (12:Nat))) (jH t s)))/\t=t/\s=s/\(↑((ag s (12:Nat)).length):Int)=(↑((ag s (12:Nat)).length):Int)/\(x1:Int)=(x1:Int)/\(ag s (12:Nat)).getD (x1:Int).toNat (0:Int)=(ag s (12:Nat)).getD x1 (0:Int)/\(↑((ag s (12:Nat)).length):Int)=(↑((ag s (12:Nat)).length):Int)/\(0:Int)=(x2:Int)/\ag s (12:Nat)=ag s (12:Nat))/\∀x3:Nat,x3<=(ag s (12:Nat)).length/\x1<(ag s (12:Nat)).length/\iF t s=((List.all (List.drop x3 (ag s (12:Nat))) fun(y:Int)=>bitB s ((en t (((ag s (12:Nat)).getD x1 (0:Int)).toNat) y.toNat).toNat))&&List.all (List.drop (x1+(1:Nat)) (ag s (12:Nat))) (jH t s))->ab (decide ((x3:Int)<(↑((ag s (12:Nat)).length):Int))) (aa (x3:Int) ((ag s (12:Nat)).length)/\aa ((ag s (12:Nat)).getD x1 (0:Int)) t.length/\aa ((ag s (12:Nat)).getD (x3:Int).toNat (0:Int)) ((t.getD (((ag s (12:Nat)).getD x1 (0:Int)).toNat) []).length)/\(((0:Int)<=s/\s<=(9223372036854775807:Int)/\(0:Int)<=(List.getD t ((List.getD (ag s (12:Nat)) x1 (0:Int)).toNat) []).getD (((ag s (12:Nat)).getD (x3:Int).toNat (0:Int)).toNat) (0:Int)/\(List.getD t ((List.getD (ag s (12:Nat)) x1 (0:Int)).toNat) []).getD (((ag s (12:Nat)).getD (x3:Int).toNat (0:Int)).toNat) (0:Int)<=(62:Int))/\True)/\ab (!bitB s (((List.getD t ((List.getD (ag s (12:Nat)) x1 (0:Int)).toNat) []).getD (((ag s (12:Nat)).getD (x3:Int).toNat (0:Int)).toNat) (0:Int)).toNat)) (false=eV t s/\True) (ae ((x3:Int)+(1:Int))/\∃x4:Nat,(x4<=(ag s (12:Nat)).length/\x1<(ag s (12:Nat)).length/\iF t s=((List.all (List.drop x4 (ag s (12:Nat))) fun(y:Int)=>bitB s ((en t (((ag s (12:Nat)).getD x1 (0:Int)).toNat) y.toNat).toNat))&&List.all (List.drop (x1+(1:Nat)) (ag s (12:Nat))) (jH t s)))/\(ag s (12:Nat)).length-x4<(ag s (12:Nat)).length-x3/\t=t/\s=s/\(↑((ag s (12:Nat)).length):Int)=(↑((ag s (12:Nat)).length):Int)/\(x1:Int)=(x1:Int)/\(ag s (12:Nat)).getD x1 (0:Int)=(ag s (12:Nat)).getD x1 (0:Int)/\(↑((ag s (12:Nat)).length):Int)=(↑((ag s (12:Nat)).length):Int)/\(x3:Int)+(1:Int)=(x4:Int)/\ag s (12:Nat)=ag s (12:Nat))) (ae ((x1:Int)+(1:Int))/\∃x5:Nat,(x5<=(ag s (12:Nat)).length/\bitB s (0:Nat)=true/\iF t s=List.all (List.drop x5 (ag s (12:Nat))) (jH t s))/\(ag s (12:Nat)).length-x5<(ag s (12:Nat)).length-x1/\t=t/\s=s/\(↑((ag s (12:Nat)).length):Int)=(↑((ag s (12:Nat)).length):Int)/\(x1:Int)+(1:Int)=(x5:Int)/\ag s (12:Nat)=ag s (12:Nat))) (true=eV t s/\True)),by kernel_rfl,?_⟩
 simp only[aH]at ξ⊢;have S:=pP ξ
 obtain⟨n1,n2,ht⟩:=bT ξ.1;have E:=tG ξ
 have eL:=pK s 12
 refine⟨by omega,fun h=>by rw[eV,show bitB s 0=false from h];rfl,fun h=>⟨by omega,⟨0,⟨by omega,h,(Ub ξ).symm⟩,rfl⟩,fun i ⟨hi,_,he⟩=>⟨fun h3=>⟨by omega,⟨0,⟨by omega,by omega,?_⟩,rfl⟩,fun j ⟨hj,_,hy⟩=>⟨fun h4=>?_,fun h4=>?_⟩⟩,fun h3=>?_⟩⟩⟩
 ·rw[he,pz 0 _ (by omega)];rfl
 ·have A:=E i (by omega)
  have B:=E j (by omega)
  have r:=ht ((ag s 12).getD i 0).toNat (by omega)
  have v:=r.2 ((ag s 12).getD j 0).toNat (by omega)
  rw[pz 0 _ (by omega)]at hy
  refine⟨by omega,by omega,by omega,⟨by omega,by omega,by omega,by omega⟩,fun hb=>?_,fun hb=>⟨by omega,j+1,⟨by omega,by omega,?_⟩,by omega,by omega⟩⟩
  ·have e:bitB s (en t ((ag s 12).getD i 0).toNat ((ag s 12).getD j 0).toNat).toNat=false:=hb
   rw[eV,hy,e];simp
  ·have e:bitB s (en t ((ag s 12).getD i 0).toNat ((ag s 12).getD j 0).toNat).toNat=true:=hb
   rw[hy,e,Ac]
 ·refine⟨by omega,i+1,⟨by omega,h,?_⟩,by omega,by omega⟩
  rw[hy,A4 (by omega)];rfl
 ·rw[eV,show bitB s 0=true from h,he,A4 (by omega)];rfl
def tI(t:Dc)(s:Int)(x:Nat)(y:Int):Bool:=bitB s (en t (en t x y.toNat).toNat (bk t x).toNat).toNat
def z7:List AD->Option Post
 | [.c (.rows .i64 t),.c (.int .i64 s)]=>some ⟨bd t=true/\cQ t s,.c (.bool (fe t s)),[]⟩
 |_=>none
def Lg(t:Dc)(s:Int):Nat->Option Ann
 |0=>V' (fun i=>⟨⟨[(0,I' t),(1,D' s),(5,M' 10),(12,D' t.length),(13,D' i)],[(10,Q' (bB t))]⟩,i<=t.length/\fe t s=(List.range' i (t.length-i)).all (ly t s),t.length-i⟩) (fun i b_=>match b_ with|2=>U' fun j=>⟨⟨[(0,I' t),(1,D' s),(5,M' 10),(12,D' t.length),(13,D' i),(6,D' i),(17,M' 17),(18,D' ((((ag s 12).length:Int)))),(19,D' j)],[(10,Q' (bB t)),(17,Q' (ag s 12))]⟩,j<=(ag s 12).length/\i<t.length/\fe t s=(((ag s 12).drop j).all (tI t s i)&&(List.range' (i+1) (t.length-(i+1))).all (ly t s)),(ag s 12).length-j⟩|_=>none)
 |_=>none
def pS(t:Dc)(s:Int)(x0:Nat)(x1:Nat):=((List.getD t (↑x0:Int).toNat []).getD (((ag s (12:Nat)).getD (↑x1:Int).toNat (0:Int)).toNat) (0:Int))
def tK(t:Dc)(s:Int)(x0:Nat)(x1:Nat):=(List.all (List.drop x0 (ag s (12:Nat))) (tI t s x1)&&List.all (List.range' (x1+(1:Nat)) (t.length-(x1+(1:Nat)))) (ly t s))
theorem Ul:Fits Tryz.prog 123 ⟨[],z7⟩:=by
 refine ffv (Γ:=af [(114,⟨[],oh⟩),(153,⟨[],oe⟩),(166,⟨[],oc⟩)]) (aj tk (aj td (aj s8 aG))) Tryz.func123 fun ds p h ξ=>?_
 unfold z7 at h;split at h<;>cases h
 rename_i t s
 refine⟨ah,Lg t s,(aM t=true/\True)/\(∃x0:Nat,(x0<=t.length/\fe t s=List.all (List.range' x0 (t.length-x0)) (ly t s))/\t=t/\s=s/\(t.length:Int)=(t.length:Int)/\(0:Int)=(x0:Int)/\bB t=bB t)/\∀x1:Nat,x1<=t.length/\fe t s=List.all (List.range' x1 (t.length-x1)) (ly t s)->ab (decide ((x1:Int)<(t.length:Int))) ((((0:Int)<=s/\s<(4096:Int))/\True)/\(∃x2:Nat,(x2<=(ag s (12:Nat)).length/\x1<t.length/\fe t s=(tK t s x2 x1))/\t=t/\s=s/\(t.length:Int)=(t.length:Int)/\(x1:Int)=(x1:Int)/\(x1:Int)=(x1:Int)/\(↑((ag s (12:Nat)).length):Int)=(↑((ag s (12:Nat)).length):Int)/\(0:Int)=(x2:Int)/\bB t=bB t/\ag s (12:Nat)=ag s (12:Nat))/\∀x3:Nat,x3<=(ag s (12:Nat)).length/\x1<t.length/\fe t s=(tK t s x3 x1)->ab (decide ((x3:Int)<(↑((ag s (12:Nat)).length):Int))) (aa (x3:Int) ((ag s (12:Nat)).length)/\aa (x1:Int) t.length/\aa ((ag s (12:Nat)).getD (x3:Int).toNat (0:Int)) ((t.getD (x1:Int).toNat []).length)/\aa (pS t s x1 x3) t.length/\aa (x1:Int) (bB t).length/\aa ((bB t).getD (x1:Int).toNat (0:Int)) ((t.getD (pS t s x1 x3).toNat []).length)/\(((0:Int)<=s/\s<=(9223372036854775807:Int)/\(0:Int)<=(List.getD t (pS t s x1 x3).toNat []).getD (((bB t).getD (x1:Int).toNat (0:Int)).toNat) (0:Int)/\(List.getD t (pS t s x1 x3).toNat []).getD (((bB t).getD (x1:Int).toNat (0:Int)).toNat) (0:Int)<=(62:Int))/\True)/\ab (!bitB s (((List.getD t ((List.getD (List.getD t (x1:Int).toNat []) ((List.getD (ag s (12:Nat)) (x3:Int).toNat (0:Int)).toNat) (0:Int)).toNat) []).getD (((bB t).getD (x1:Int).toNat (0:Int)).toNat) (0:Int)).toNat)) (false=fe t s/\True) (ae ((x3:Int)+(1:Int))/\∃x4:Nat,(x4<=(ag s (12:Nat)).length/\x1<t.length/\fe t s=(tK t s x4 x1))/\(ag s (12:Nat)).length-x4<(ag s (12:Nat)).length-x3/\t=t/\s=s/\(t.length:Int)=(t.length:Int)/\(x1:Int)=(x1:Int)/\(x1:Int)=(x1:Int)/\(↑((ag s (12:Nat)).length):Int)=(↑((ag s (12:Nat)).length):Int)/\(x3:Int)+(1:Int)=(x4:Int)/\bB t=bB t/\ag s (12:Nat)=ag s (12:Nat))) (ae ((x1:Int)+(1:Int))/\∃x5:Nat,(x5<=t.length/\fe t s=List.all (List.range' x5 (t.length-x5)) (ly t s))/\t.length-x5<t.length-x1/\t=t/\s=s/\(t.length:Int)=(t.length:Int)/\(x1:Int)+(1:Int)=(x5:Int)/\bB t=bB t)) (true=fe t s/\True),by kernel_rfl,?_⟩
 simp only[pS,tK,aH]at ξ⊢;obtain⟨hg,hs⟩:=ξ;have S:=pP hs
 obtain⟨n1,n2,ht⟩:=bT hs.1;have E:=tG hs
 have eL:=pK s 12
 have hbl:=pM t
 refine⟨hs.1,⟨0,⟨by omega,by rw[<-Ud hs,mw]⟩,rfl⟩,fun i ⟨hi,he⟩=>⟨fun h3=>⟨by omega,⟨0,⟨by omega,by omega,?_⟩,rfl⟩,fun j ⟨hj,_,hy⟩=>⟨fun h4=>?_,fun h4=>?_⟩⟩,fun h3=>by rw[he,mr _ (by omega)]⟩⟩
 ·rw[he,mq _ (by omega)];rfl
 ·have B:=E j (by omega)
  have r:=ht i (by omega)
  have v:=r.2 ((ag s 12).getD j 0).toNat (by omega)
  have r2:=ht ((t.getD i []).getD ((ag s 12).getD j 0).toNat 0).toNat (by omega)
  have bi:=zI hg (x:=i) (by omega)
  have v2:=r2.2 (bk t i).toNat (by omega)
  rw[pN t i (by omega)]
  rw[pz 0 _ (by omega)]at hy
  refine⟨by omega,by omega,by omega,by omega,by omega,by omega,⟨by omega,by omega,by omega,by omega⟩,fun hb=>?_,fun hb=>⟨by omega,j+1,⟨by omega,by omega,?_⟩,by omega,by omega⟩⟩
  ·rw[hy,show tI t s i ((ag s 12).getD j 0)=false from hb];rfl
  ·rw[hy,show tI t s i ((ag s 12).getD j 0)=true from hb,Ac]
 ·refine⟨by omega,i+1,⟨by omega,?_⟩,by omega,by omega⟩
  rw[hy,A4 (by omega)];rfl
def z9(n:Nat)(l:Dc):Prop:=l.length=n/\∀x,x<n->(l.getD x []).length=n/\∀y,y<n->0<=(l.getD x []).getD y 0/\(l.getD x []).getD y 0<=(n:Int)-1
theorem Um{a c:Dc}(h:eS a c):z9 a.length (aS a c):=by
 obtain⟨n1,n2,hl,ha,hc,hb⟩:=lj h;refine⟨fb _ _,fun x hx=>?_⟩
 rw[aS,fG _ _ _ hx];refine⟨bK _ _,fun y hy=>?_⟩
 rw[cj _ _ _ hy];have B:=hb x hx
 have C:=(hc x hx).2 y hy
 exact(ha (bk a x).toNat (by omega)).2 ((c.getD x []).getD y 0).toNat (by omega)
def tL(a:Dc)(c:Dc)(l:Dc)(s:Int):Post:=⟨cQ a s/\z9 a.length l,.c (.bool (eV a s&&fp a.length l s)),[]⟩
def Dg:List AD->Option Post
 | [.agg [.rows .i64 a,.rows .i64 c],.c (.rows .i64 l),.c (.int .i64 s)]=>some (tL a c l s)
 |_=>none
def Li(a:Dc)(c:Dc)(l:Dc)(s:Int):Nat->Option Ann
 |0=>V' (fun i=>⟨⟨[(1,I' l),(2,D' s),(3,N' 3),(17,M' 17),(18,D' ((((ag s 12).length:Int)))),(19,D' i)],[(3,T' [.ro (.rows .i64 a),.ro (.rows .i64 c)]),(17,Q' (ag s 12))]⟩,i<=(ag s 12).length/\eV a s=true/\fp a.length l s=((ag s 12).drop i).all (jI l s),(ag s 12).length-i⟩) (fun i b_=>match b_ with|2=>U' fun j=>⟨⟨[(1,I' l),(2,D' s),(3,N' 3),(17,M' 17),(18,D' ((((ag s 12).length:Int)))),(19,D' i),(8,D' (((ag s 12).getD i 0))),(23,I' l),(24,D' l.length),(25,D' j)],[(3,T' [.ro (.rows .i64 a),.ro (.rows .i64 c)]),(17,Q' (ag s 12))]⟩,(j<=l.length/\i<(ag s 12).length/\fp a.length l s=((l.drop j).all (fun r=>bitB s (r.getD ((ag s 12).getD i 0).toNat 0).toNat)&&((ag s 12).drop (i+1)).all (jI l s))),l.length-j⟩|_=>none)
 |_=>none
def Lj:List (Nat×Ctr):=[(165,⟨[],zZ⟩),(153,⟨[],oe⟩),(166,⟨[],oc⟩)]
def Dh(a:Dc)(c:Dc)(l:Dc)(s:Int):Prop :=
 (((cQ a s)/\True)/\(ab (!eV a s) ((false=(eV a s&&fp a.length l s))/\True) (((((0:Int)<=s)/\(s<(4096:Int)))/\True)/\((∃x0:Nat,(((x0<=(ag s (12:Nat)).length)/\((eV a s=true)/\(fp a.length l s=List.all (List.drop x0 (ag s (12:Nat))) (jI l s))))/\((l=l)/\((s=s)/\(((↑((ag s (12:Nat)).length):Int)=(↑((ag s (12:Nat)).length):Int))/\(((0:Int)=(↑x0:Int))/\((a=a)/\((c=c)/\(ag s (12:Nat)=ag s (12:Nat))))))))))/\(∀x1:Nat,(((x1<=(ag s (12:Nat)).length)/\((eV a s=true)/\(fp a.length l s=List.all (List.drop x1 (ag s (12:Nat))) (jI l s))))->(ab (decide ((↑x1:Int)<(↑((ag s (12:Nat)).length):Int))) ((aa (↑x1:Int) ((ag s (12:Nat)).length))/\((∃x2:Nat,(((x2<=l.length)/\((x1<(ag s (12:Nat)).length)/\(fp a.length l s=((List.all (List.drop x2 l) fun(r:Db)=>bitB s ((r.getD (((ag s (12:Nat)).getD x1 (0:Int)).toNat) (0:Int)).toNat))&&List.all (List.drop (x1+(1:Nat)) (ag s (12:Nat))) (jI l s)))))/\((l=l)/\((s=s)/\(((↑((ag s (12:Nat)).length):Int)=(↑((ag s (12:Nat)).length):Int))/\(((↑x1:Int)=(↑x1:Int))/\(((ag s (12:Nat)).getD (↑x1:Int).toNat (0:Int)=(ag s (12:Nat)).getD x1 (0:Int))/\((l=l)/\(((↑(l.length):Int)=(↑(l.length):Int))/\(((0:Int)=(↑x2:Int))/\((a=a)/\((c=c)/\(ag s (12:Nat)=ag s (12:Nat))))))))))))))/\(∀x3:Nat,(((x3<=l.length)/\((x1<(ag s (12:Nat)).length) /\
 (fp a.length l s=((List.all (List.drop x3 l) fun(r:Db)=>bitB s ((r.getD (((ag s (12:Nat)).getD x1 (0:Int)).toNat) (0:Int)).toNat))&&List.all (List.drop (x1+(1:Nat)) (ag s (12:Nat))) (jI l s)))))->(ab (decide ((↑x3:Int)<(↑(l.length):Int))) ((aa (↑x3:Int) l.length)/\((aa ((ag s (12:Nat)).getD x1 (0:Int)) ((l.getD (↑x3:Int).toNat []).length))/\(((((0:Int)<=s)/\((s<=(9223372036854775807:Int))/\(((0:Int)<=(List.getD l (↑x3:Int).toNat []).getD (((ag s (12:Nat)).getD x1 (0:Int)).toNat) (0:Int))/\((List.getD l (↑x3:Int).toNat []).getD (((ag s (12:Nat)).getD x1 (0:Int)).toNat) (0:Int)<=(62:Int)))))/\True)/\(ab (!bitB s (((List.getD l (↑x3:Int).toNat []).getD (((ag s (12:Nat)).getD x1 (0:Int)).toNat) (0:Int)).toNat)) ((false=(eV a s&&fp a.length l s))/\True) ((ae ((↑x3:Int)+(1:Int)))/\(∃x4:Nat,(((x4<=l.length)/\((x1<(ag s (12:Nat)).length)/\(fp a.length l s=((List.all (List.drop x4 l) fun(r:Db)=>bitB s ((r.getD (((ag s (12:Nat)).getD x1 (0:Int)).toNat) (0:Int)).toNat))&&List.all (List.drop (x1+(1:Nat)) (ag s (12:Nat))) (jI l s)))))/\((l.length-x4<l.length-x3)/\((l=l)/\((s=s)/\(((↑((ag s (12:Nat)).length):Int)=(↑((ag s (12:Nat)).length):Int))/\(((↑x1:Int)=(↑x1:Int))/\(((ag s (12:Nat)).getD x1 (0:Int)=(ag s (12:Nat)).getD x1 (0:Int))/\((l=l)/\(((↑(l.length):Int)=(↑(l.length):Int))/\(((↑x3:Int)+(1:Int)=(↑x4:Int))/\((a=a)/\((c=c)/\(ag s (12:Nat)=ag s (12:Nat))))))))))))))))))))
 ((ae ((↑x1:Int)+(1:Int)))/\(∃x5:Nat,(((x5<=(ag s (12:Nat)).length)/\((eV a s=true)/\(fp a.length l s=List.all (List.drop x5 (ag s (12:Nat))) (jI l s))))/\(((ag s (12:Nat)).length-x5<(ag s (12:Nat)).length-x1)/\((l=l)/\((s=s)/\(((↑((ag s (12:Nat)).length):Int)=(↑((ag s (12:Nat)).length):Int))/\(((↑x1:Int)+(1:Int)=(↑x5:Int))/\((a=a)/\((c=c)/\(ag s (12:Nat)=ag s (12:Nat))))))))))))))))) ((true=(eV a s&&fp a.length l s))/\True))))))))
theorem Un(a:Dc)(c:Dc)(l:Dc)(s:Int):aE Tryz.prog (af Lj) ah (Li a c l s) Tryz.f122 (aF Tryz.f122) [] [.agg [.rows .i64 a,.rows .i64 c],.c (.rows .i64 l),.c (.int .i64 s)] (tL a c l s)=Dh a c l s:=by kernel_rfl
theorem Uo(a:Dc)(c:Dc)(l:Dc)(s:Int)(ξ:(tL a c l s).pre):Dh a c l s:=by
 simp only[tL,Dh,aH]at ξ⊢;obtain⟨hs,hl,hL⟩:=ξ;have S:=pP hs
 obtain⟨n1,n2,ht⟩:=bT hs.1;have E:=tG hs
 have eL:=pK s 12
 refine⟨hs,fun h=>by rw[h];rfl,fun h=>⟨by omega,⟨0,⟨by omega,h,(Uc hs hl).symm⟩,rfl⟩,fun i ⟨hi,_,he⟩=>⟨fun h3=>⟨by omega,⟨0,⟨by omega,by omega,?_⟩,rfl⟩,fun j ⟨hj,_,hy⟩=>⟨fun h4=>?_,fun h4=>?_⟩⟩,fun h3=>?_⟩⟩⟩
 ·rw[he,pz 0 _ (by omega)];rfl
 ·have A:=E i (by omega)
  have r:=hL j (by omega)
  have v:=r.2 ((ag s 12).getD i 0).toNat (by omega)
  rw[pz [] _ (by omega)]at hy
  refine⟨by omega,by omega,⟨by omega,by omega,by omega,by omega⟩,fun hb=>?_,fun hb=>⟨by omega,j+1,⟨by omega,by omega,?_⟩,by omega,by omega⟩⟩
  ·rw[hy,hb];simp
  ·rw[hy,hb,Ac]
 ·refine⟨by omega,i+1,⟨by omega,h,?_⟩,by omega,by omega⟩
  rw[hy,A4 (by omega)];rfl
 ·rw[h,he,A4 (by omega)];rfl
theorem Up:Fits Tryz.prog 122 ⟨[],Dg⟩:=by
 refine aI (Γ:=af Lj) (aj Ui (aj td (aj s8 aG))) Tryz.func122 fun ds p h hp=>?_
 unfold Dg at h;split at h
 ·cases h
  exact⟨ah,Li _ _ _ _ ,by rw[Un];exact Uo _ _ _ _  hp⟩
 ·cases h
def Di:List AD->Option Post
 | [.agg [.rows .i64 a,.rows .i64 c],.c (.rows .i64 l),.c (.int .i64 s)]=>some ⟨eS a c/\l=aS a c/\cQ a s,.c (.bool (gE a c s)),[]⟩
 |_=>none
theorem Us:Fits Tryz.prog 68 ⟨[],Di⟩:=by
 refine ffv (Γ:=af [(122,⟨[],Dg⟩),(123,⟨[],z7⟩)]) (aj Up (aj Ul aG)) Tryz.func68 fun ds p h ξ=>?_
 unfold Di at h;split at h<;>cases h
 rename_i a c l s
 refine⟨ah,ak,((cQ a s/\z9 a.length l)/\True)/\ab (eV a s&&fp a.length l s) (((bd a=true/\cQ a s)/\True)/\ab (fe a s) (((bd c=true/\cQ c s)/\True)/\fe c s=gE a c s/\True) (false=gE a c s/\True)) (false=gE a c s/\True),by kernel_rfl,?_⟩
 simp only[aH]at ξ⊢;obtain⟨hg,rfl,hs⟩:=ξ;have hs2:cQ c s:=⟨gC hg.2.1,hs.2.1,by rw[<-hg.2.2];exact hs.2.2⟩
 refine⟨⟨hs,Um hg⟩,fun h=>⟨⟨hg.1,hs⟩,fun h2=>⟨⟨hg.2.1,hs2⟩,by rw[gE,h,h2];rfl⟩,fun h2=>by rw[gE,h,h2];rfl⟩,fun h=>by rw[gE,h];rfl⟩
theorem Ut{a:Dc}(h:aM a=true){k:Nat}(hk:k<2 ^ (a.length-1)):cQ a (2*(k:Int)+1):=by
 have n1:=(bT h).1
 refine⟨h,by omega,?_⟩
 obtain⟨m,hm⟩:∃m,a.length=m+1:=⟨a.length-1,by omega⟩
 rw[hm,Cr]at hk;rw[hm,Bg];omega
theorem Uu{p:Int->Bool}{k:Nat}{x:Int}(h:x∈lz p k):∃j,j<k/\x=2*(j:Int)+1:=by
 simp only[lz,AT,BH,AW]at h;obtain⟨j,⟨hj,_⟩,rfl⟩:=h;exact⟨j,hj,rfl⟩
end Go.Sx
